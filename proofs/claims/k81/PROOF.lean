import PyProof.Rows.All
import PySem.Challenge.RW_ringbars_k81_majorities_of_three_books
import HandS.ForMost
import HandS.More
import HandS.Exc
import HandS.Defaults
import KE.SortData
import HandS.Iter
import HandS.Zip
import HandS.Text
import HandS.Flow
import HandS.Deep
import HandS.TupAny
import HandS.Style
import HandS.SortInts
import HandS.IsInst
import HandS.Conv
import HandS.FStr
import HandS.Small
import HandS.ExcInit
import PyProof.InstNe
import KE.KCallOwn
import PyProof.SumAny
import PyProof.TwoTypesSub
import KE.KTupSum
import KE.SortKeyHeap
import HandS.SortKw
import KE.KDictZip
import KE.GoesMore
import KE.KSuper
import HandS.ClsMeth
import HandS.Nested
import HandS.Lambda
import HandS.ExcIs
import HandS.ExcField
import KE.KExcIs
import HandS.HeadHook4
import KE.KNestM
import HandS.EndTab
import HandS.Head2
set_option Elab.async false
set_option linter.all false
set_option maxRecDepth 100000
namespace Z
open PySem
abbrev BIG : Nat := 16777216

/-- a value: settled data; obj: a live object of the store; fl, fd: a list, a dict just made and held by nobody -/
inductive Dat where
  | non | bl (b : Bool) | int (i : Int) | str (s : Str)
  | lst (xs : List Dat) | tup (xs : List Dat) | rol (ns : List Int)
  | dic (kvs : List (L2.Key × Dat))
  | ins (c : Nat) (fs : List (Nat × Dat))
  | obj (i : Nat) | fl (xs : List Dat) | fd (kvs : List (L2.Key × Dat))
  deriving Inhabited
inductive Cell where
  | lst (xs : List Dat) | ins (c : Nat) (fs : List (Nat × Dat)) | dic (kvs : List (L2.Key × Dat)) | froz (d : Dat)
abbrev St := List Cell
abbrev Env := List (Option Dat)
inductive Res (α : Type) where
  | ok (a : α) (s : St) | err (c : Nat) (fs : List (Nat × Dat)) (s : St) | stuck
namespace Res
variable {α β : Type}
def bnd (r : Res α) (f : α → St → Res β) : Res β := match r with
  | ok a s => f a s
  | err c fs s => err c fs s
  | stuck => stuck
@[simp] theorem bnd_ok {a : α} {s : St} {f : α → St → Res β} : (ok a s).bnd f = f a s := rfl
@[simp] theorem bnd_err {c fs} {s : St} {f : α → St → Res β} : (err c fs s : Res α).bnd f = err c fs s := rfl
@[simp] theorem bnd_stuck {f : α → St → Res β} : (stuck : Res α).bnd f = stuck := rfl
/-- an error is none that is served here -/
def calm (r : Res α) : Res α := match r with
  | err _ _ _ => stuck
  | r => r
@[simp] theorem calm_ok {a : α} {s : St} : (ok a s).calm = ok a s := rfl
def wp (r : Res α) (K : α → St → Prop) (E : Nat → List (Nat × Dat) → St → Prop) : Prop := match r with
  | ok a s => K a s
  | err c fs s => E c fs s
  | stuck => False
end Res
open Res
def opt {α : Type} (o : Option α) (s : St) : Res α := match o with
  | some a => .ok a s
  | none => .stuck
@[simp] theorem opt_some {α : Type} {a : α} {s : St} : opt (some a) s = .ok a s := rfl

/-- what stands behind a value -/
def view (s : St) : Dat → Dat
  | .obj i => match s[i]? with
    | some (.lst xs) => .lst xs
    | some (.ins c fs) => .ins c fs
    | some (.dic kvs) => .dic kvs
    | some (.froz d) => d
    | none => .obj i
  | d => d
/-- a fresh list or dict becomes data -/
def raw : Dat → Dat
  | .fl xs => .lst xs
  | .fd kvs => .dic kvs
  | d => d
/-- .. and a live object too: from here on it is never changed -/
def settle (d : Dat) (s : St) : Res Dat := match d with
  | .fl xs => .ok (.lst xs) s
  | .fd kvs => .ok (.dic kvs) s
  | .obj i => match s[i]? with
    | some (.lst xs) => .ok (.lst xs) (s.set i (.froz (.lst xs)))
    | some (.ins c fs) => .ok (.ins c fs) (s.set i (.froz (.ins c fs)))
    | some (.dic kvs) => .ok (.dic kvs) (s.set i (.froz (.dic kvs)))
    | some (.froz d) => .ok d s
    | none => .stuck
  | d => .ok d s
/-- a fresh list or dict becomes a live object -/
def live (d : Dat) (s : St) : Res Dat := match d with
  | .fl xs => .ok (.obj s.length) (s ++ [.lst xs])
  | .fd kvs => .ok (.obj s.length) (s ++ [.dic kvs])
  | d => .ok d s

inductive BOp where
  | add | sub | mul | fdiv | mod | pow | shl | shr | band | bor
inductive COp where
  | eq | ne | lt | le | gt | ge | is_ | isnt | in_ | nin
def big (n : Nat) : Bool := Nat.ble n BIG
def binop : BOp → Dat → Dat → Option Dat
  | .add, .int i, .int j => some (.int (i + j))
  | .add, .str x, .str y => if big (x.length + y.length) then some (.str (x ++ y)) else none
  | .add, .lst xs, .lst ys => if big (xs.length + ys.length) then some (.fl (xs ++ ys)) else none
  | .add, .tup xs, .tup ys => if big (xs.length + ys.length) then some (.tup (xs ++ ys)) else none
  | .sub, .int i, .int j => some (.int (i - j))
  | .mul, .int i, .int j => if decide ((-(2 ^ 64) < i ∧ i < 2 ^ 64) ∨ (-(2 ^ 64) < j ∧ j < 2 ^ 64)) then some (.int (i * j)) else none
  | .mul, .lst xs, .int k => if decide (-(2 ^ 63) ≤ k ∧ k < 2 ^ 63) && big (xs.length * k.toNat) then some (.fl (List.replicate k.toNat xs).flatten) else none
  | .fdiv, .int i, .int j => if decide (0 < j ∧ j < 1073741824) then some (.int (i / j)) else none
  | .mod, .int i, .int j => if decide (0 < j) then some (.int (i % j)) else none
  | .pow, .int i, .int j => if decide (0 ≤ j ∧ j ≤ 1000000 ∧ i.natAbs < 2 ^ 64) then some (.int (i ^ j.toNat)) else none
  | .shl, .int i, .int j => if decide (0 ≤ j ∧ j ≤ 1000000 ∧ i.natAbs < 2 ^ 64) then some (.int (i * 2 ^ j.toNat)) else none
  | .shr, .int i, .int j => if decide (0 ≤ j) then some (.int (i / 2 ^ j.toNat)) else none
  | .band, .int i, .int j => some (.int (Builtin.bitAnd i j))
  | .bor, .int i, .int j => some (.int (Builtin.bitOr i j))
  | _, _, _ => none
mutual
def toPy : Dat → Option PyData
  | .non => some .none
  | .bl b => some (.bool b)
  | .int i => some (.int i)
  | .str x => some (.str x)
  | .lst xs => (toPys xs).map .list
  | .tup xs => (toPys xs).map .tuple
  | _ => none
def toPys : List Dat → Option (List PyData)
  | [] => some []
  | d :: r => match toPy d, toPys r with
    | some p, some ps => some (p :: ps)
    | _, _ => none
end
def shapedO (o : Option PyData) : Option PyData := match o with
  | some p => if SeqAt.shaped p then some p else none
  | none => none
def eqD (a b : Dat) : Option Bool := match shapedO (toPy a), shapedO (toPy b) with
  | some p, some q => some (PyData.eqv p q)
  | _, _ => none
def isInts : List Dat → Option (List Int)
  | [] => some []
  | .int i :: r => (isInts r).map (i :: ·)
  | _ => none
def inD (a b : Dat) : Option Bool := match b with
  | .lst xs => (match shapedO (toPy a), toPys xs with
    | some p, some qs => if SeqAt.shaped (.list qs) then some (qs.any fun z => PyData.eqv z p) else none
    | _, _ => none)
  | .tup xs => (match shapedO (toPy a), toPys xs with
    | some p, some qs => if SeqAt.shaped (.list qs) then some (qs.any fun z => PyData.eqv z p) else none
    | _, _ => none)
  | .dic kvs => (match a with
    | .int i => some (kvs.any fun kv => decide (kv.1 = Sum.inl i))
    | .str x => some (kvs.any fun kv => decide (kv.1 = Sum.inr x))
    | _ => none)
  | .str y => (match a with
    | .str x => if decide (x.length = 1) then some (decide (x.cps.getD 0 0 ∈ y.cps.toList)) else none
    | _ => none)
  | _ => none
def isStr : Dat → Bool
  | .str _ => true
  | _ => false
def isNonD : Dat → Bool
  | .non => true
  | _ => false
def cmpop : COp → Dat → Dat → Option Bool
  | .eq, a, b => eqD a b
  | .ne, a, b => (eqD a b).map (!·)
  | .in_, a, b => inD a b
  | .nin, a, b => (inD a b).map (!·)
  | .is_, a, .non => some (isNonD a)
  | .isnt, a, .non => some (!isNonD a)
  | .is_, .bl a, .bl b => some (a == b)
  | .isnt, .bl a, .bl b => some (!(a == b))
  | .lt, .int i, .int j => some (decide (i < j))
  | .le, .int i, .int j => some (decide (i ≤ j))
  | .gt, .int i, .int j => some (decide (j < i))
  | .ge, .int i, .int j => some (decide (j ≤ i))
  | _, _, _ => none
def truth : Dat → Option Bool
  | .non => some false
  | .bl b => some b
  | .int i => some (i != 0)
  | .str x => if big x.length then some (x.length != 0) else none
  | .lst xs => some (!xs.isEmpty)
  | .tup xs => some (!xs.isEmpty)
  | .dic kvs => some (!kvs.isEmpty)
  | _ => none
def ixD : Dat → Dat → Option Dat
  | .lst xs, .int i => L2.atI xs i
  | .tup xs, .int i => L2.atI xs i
  | .str x, .int i => if big x.length then (L2.atI x.cps.toList i).map (fun c => .str ⟨#[c]⟩) else none
  | _, _ => none
def ixL : Dat → Dat → Option Dat
  | .lst xs, .int i => L2.atI xs i
  | _, _ => none
def cut {α : Type} (xs : List α) (lo hi : Option Int) : List α := (xs.drop (HT.sIx xs.length 0 lo)).take (HT.sIx xs.length xs.length hi - HT.sIx xs.length 0 lo)
def slD (d : Dat) (lo hi : Option Int) : Option Dat := match d with
  | .lst xs => some (.fl (cut xs lo hi))
  | .rol ns => some (.fl ((cut ns lo hi).map .int))
  | .tup xs => some (.tup (cut xs lo hi))
  | .str x => if big x.length then some (.str ⟨(cut x.cps.toList lo hi).toArray⟩) else none
  | _ => none
end Z
namespace Z
open PySem
open Res
inductive BI where
  | len | abs | int | bool | str | repr | sum | sorted | any | all | max | min | list | tuple
inductive LM where
  | append | insert | extend | pop | remove | add
inductive PM where
  | join | split | index | count
inductive CR where
  | ty (n : String) | own (c : Nat)
inductive Tgt where
  | name (i : Nat) | tup (is : List Nat)
/-- what is told of an error -/
inductive HE where
  | ite (cs : List Nat) (a b : HE) | no | non | str (x : Str) | fld (k : Nat) | rep (k : Nat) | tup (xs : List HE)
mutual
inductive IE where
  | const (d : Dat)
  | var (i : Nat)
  | bin (op : BOp) (a b : IE)
  | neg (a : IE) | inv (a : IE)
  | cmp (op : COp) (a b : IE)
  | chain (op op2 : COp) (a b c : IE)
  | and_ (a b : IE) | or_ (a b : IE) | not_ (a : IE)
  | ite (c : IT) (a b : IE)
  | call (f : Nat) (as : List IE) (pm : List (Sum Nat Dat))
  | make (c : Nat) (as : List IE) (pm : List (Sum Nat Dat))
  | meth (m : Nat) (o : IE) (as : List IE)
  | bi (b : BI) (a : IE) | bi2 (b : BI) (a c : IE)
  | range (a : IE)
  | sortBy (f : Nat) (a : IE)
  | isi (a : IE) (cs : List CR)
  | fld (a : IE) (k : Nat)
  | ix (a i : IE)
  | sl (a : IE) (lo hi : Option IE)
  | disp (es : List IE) | tupl (es : List IE)
  | comp (elt : IE) (tg : Tgt) (it : It) (cond : Option IT) (wp : List Nat)
  | lm (m : LM) (o : IE) (as : List IE)
  | pm (m : PM) (o : IE) (as : List IE)
  | fstr (es : List IE)
  | newd
  | str_ (m : Nat) (a : IE)
  | heard (e : IE) (b : Nat) (h : HE)
  /-- super().__init__(w, ..) of an instance of one of these classes -/
  | supr (g : Nat) (cs : List Nat) (w : IE) (es : List IE)
inductive IT where
  | not_ (a : IT) | and_ (a b : IT) | or_ (a b : IT) | val (e : IE)
inductive It where
  | val (e : IE) | rng1 (a : IE) | rng2 (a b : IE) | enum (e : IE) | zip2 (a b : IE) | zip3 (a b c : IE)
end
inductive IS where
  | expr (e : IE)
  | ret (lv : Bool) (e : IE) | retN
  | asg (i : Nat) (lv : Bool) (e : IE)
  | asgT (is : List Nat) (e : IE)
  | par (is : List (Nat × Bool)) (es : List IE)
  | setIx (o i e : IE) | setFld (o : IE) (k : Nat) (e : IE)
  | augN (i : Nat) (op : BOp) (e : IE) | augIx (o i : IE) (op : BOp) (e : IE)
  | ifs (c : IT) (a b : List IS)
  | forS (tg : Tgt) (it : It) (b : List IS)
  | whil (c : IT) (b : List IS)
  | rais (c : Nat) (as : List IE)
  | pass | brk | cnt

structure FunI where
  N : Nat
  np : Nat
  body : List IS
structure ClsI where
  init : Option Nat := none
  lv : Bool := false
  up : List Nat := []
  meths : List (Nat × Nat) := []
  eq : Option Nat := none
  flds : List Nat := []
  /-- an instance's attributes -/
  dat : List Nat := []
structure Prog where
  funs : List FunI
  clss : List ClsI

def bindT (tg : Tgt) (x : Dat) (δ : Env) : Option Env := match tg with
  | .name i => some (δ.set i (some x))
  | .tup is => (match x with
    | .tup xs => if xs.length = is.length then some ((is.zip xs).foldl (fun δ p => δ.set p.1 (some p.2)) δ) else none
    | _ => none)
def wipeE (δ : Env) : List Nat → Env
  | [] => δ
  | v :: vs => (wipeE δ vs).set v none
def tyIs (n : String) : Dat → Bool
  | .non => n == "NoneType"
  | .bl _ => n == "bool" || n == "int"
  | .int _ => n == "int"
  | .str _ => n == "str"
  | .lst _ => n == "list" | .rol _ => n == "list" | .fl _ => n == "list"
  | .tup _ => n == "tuple"
  | .dic _ => n == "dict" | .fd _ => n == "dict"
  | _ => false
def isiD (P : Prog) (d : Dat) : CR → Bool
  | .ty n => tyIs n d
  | .own c => match d with
    | .ins k _ => (match P.clss[k]? with
      | some q => decide (k = c) || q.up.contains c
      | none => false)
    | _ => false
def npOf (P : Prog) (f : Nat) : Nat := match P.funs[f]? with
  | some q => q.np
  | none => 0
def plainC (P : Prog) (c : Nat) : Bool := match P.clss[c]? with
  | some q => q.init.isSome
  | none => false
def isiOk (P : Prog) : Dat → Bool
  | .ins c _ => plainC P c
  | .obj _ => false
  | .fl _ => false
  | .fd _ => false
  | _ => true
/-- own ==: the method; whether it is turned round -/
def ownEq (P : Prog) (op : COp) (d e : Dat) : Option (Nat × Bool) := match d with
  | .ins c _ => (P.clss[c]?).bind fun q => q.eq.bind fun f => match op, e with
    | .eq, .ins k _ => if k = c then some (f, false) else none
    | .ne, .ins k _ => if k = c then some (f, true) else none
    | _, _ => none
  | _ => none
def datC (P : Prog) (c k : Nat) : Bool := match P.clss[c]? with
  | some q => q.dat.contains k
  | none => false
def fldD (P : Prog) (d : Dat) (k : Nat) : Option Dat := match d with
  | .ins c fs => if datC P c k then fs.lookup k else none
  | _ => none
/-- an error's class is one of these, or below one -/
def belowC (P : Prog) (c : Nat) (cs : List Nat) : Bool := match P.clss[c]? with
  | some q => cs.any fun k => decide (k = c) || q.up.contains k
  | none => false
/-- an own exception that is raised -/
def excQ (P : Prog) (c : Nat) : Bool := match P.clss[c]? with
  | some q => !q.flds.isEmpty
  | none => false
def hasFld (P : Prog) (c k : Nat) : Bool := match P.clss[c]? with
  | some q => q.flds.contains k
  | none => false
mutual
def evH (P : Prog) (c : Nat) (fs : List (Nat × Dat)) : HE → Option Dat
  | .ite cs a b => if belowC P c cs then evH P c fs a else evH P c fs b
  | .no => none
  | .non => some .non
  | .str x => some (.str x)
  | .fld k => if hasFld P c k then fs.lookup k else none
  | .rep k => (match fs.lookup k with
    | some (.int i) => if decide (i.natAbs.log2 < 1920) then some (.str (toString i)) else none
    | _ => none)
  | .tup xs => (evHs P c fs xs).map .tup
def evHs (P : Prog) (c : Nat) (fs : List (Nat × Dat)) : List HE → Option (List Dat)
  | [] => some []
  | x :: r => match evH P c fs x, evHs P c fs r with
    | some d, some ds => some (d :: ds)
    | _, _ => none
end
def isBls : List Dat → Option (List Bool)
  | [] => some []
  | .bl i :: r => (isBls r).map (i :: ·)
  | _ => none
def isStrs : List Dat → Option (List Str)
  | [] => some []
  | .str i :: r => (isStrs r).map (i :: ·)
  | _ => none
def isTupD : Dat → Bool
  | .tup _ => true
  | _ => false
def seqOf : Dat → Option (List Dat)
  | .lst xs => some xs
  | .tup xs => some xs
  | .rol ns => some (ns.map .int)
  | _ => none
def maxI : List Int → Option Int
  | [] => none
  | x :: r => some (r.foldl (fun a b => if b > a then b else a) x)
def minI : List Int → Option Int
  | [] => none
  | x :: r => some (r.foldl (fun a b => if b < a then b else a) x)
-- order of keys: ints, tuples of such
mutual
def cmpD : Dat → Dat → Ordering
  | .int i, .int j => compare i j
  | .tup xs, .tup ys => cmpDs xs ys
  | _, _ => .eq
def cmpDs : List Dat → List Dat → Ordering
  | [], [] => .eq
  | [], _ :: _ => .lt
  | _ :: _, [] => .gt
  | x :: xs, y :: ys => match cmpD x y with
    | .eq => cmpDs xs ys
    | o => o
end
def ltD (a b : Dat) : Bool := match cmpD a b with
  | .lt => true
  | _ => false
/-- what a value reads as -/
def encD (d : Dat) : PyData := (toPy d).getD .none
def isT1 : PyData → Bool
  | .tuple (_ :: _) => true
  | _ => false
def isN0 : PyData → Bool
  | .none => false
  | .tuple _ => false
  | _ => true
def okP (ps : List PyData) : Bool := (ps.all fun d => ps.all fun e => PySem.W.alike d e) && (ps.all isT1 || ps.all isN0) && ps.all fun d => decide (d.depth ≤ 8)
def okSort (xs : List Dat) : Bool := (xs.all fun x => (toPy x).isSome) && okP (xs.map encD)
def sortD (xs : List Dat) : List Dat := xs.mergeSort (PySem.W.dataLe false encD)
def sortZ (ks : List (Dat × Dat)) : List Dat := (ks.mergeSort (PySem.W.dataLe false fun p => encD p.1)).map (·.2)
def biD : BI → Dat → Option Dat
  | .len, .lst xs => some (.int xs.length)
  | .len, .tup xs => some (.int xs.length)
  | .len, .rol xs => some (.int xs.length)
  | .len, .str x => if big x.length then some (.int x.length) else none
  | .abs, .int i => some (.int (if i < 0 then -i else i))
  | .int, .int i => some (.int i)
  | .int, .bl b => some (.int (if b then 1 else 0))
  | .bool, .int i => some (.bl (i != 0))
  | .bool, .bl b => some (.bl b)
  | .str, .int i => if decide (i.natAbs.log2 < 1920) then some (.str (toString i)) else none
  | .sum, .lst xs => (isInts xs).map fun ns => .int ns.sum
  | .sum, .tup xs => (isBls xs).map fun bs => .int (bs.map fun b => if b then (1 : Int) else 0).sum
  | .any, .lst xs => (isBls xs).map fun bs => .bl (bs.any id)
  | .all, .lst xs => (isBls xs).map fun bs => .bl (bs.all id)
  | .max, .lst xs => (isInts xs).bind fun ns => (maxI ns).map .int
  | .min, .lst xs => (isInts xs).bind fun ns => (minI ns).map .int
  | .sorted, .lst xs => if okSort xs then some (.fl (sortD xs)) else none
  | .sorted, .tup xs => if okSort xs then some (.fl (sortD xs)) else none
  | .list, .lst xs => some (.fl xs)
  | .list, .tup xs => some (.fl xs)
  | .tuple, .lst xs => some (.tup xs)
  | .tuple, .tup xs => some (.tup xs)
  | _, _ => none
def bi2D : BI → Dat → Dat → Option Dat
  | .max, .int i, .int j => some (.int (if j > i then j else i))
  | .min, .int i, .int j => some (.int (if j < i then j else i))
  | _, _, _ => none
def rngOk (j : Int) : Bool := decide (-(2 ^ 62) ≤ j ∧ j < 2 ^ 62)
def rngD (i j : Int) : List Dat := (List.range (j - i).toNat).map fun (k : Nat) => Dat.int (i + (k : Int))
def joinD (sep : Str) (xs : List Str) : Option Dat := if big ((xs.map Str.length).sum + sep.length * xs.length) then some (.str (PySem.Txt.join sep xs)) else none
def pmD : PM → Dat → List Dat → Option Dat
  | .join, .str z, [.lst xs] => (isStrs xs).bind fun ys => joinD z ys
  | .join, .str z, [.tup xs] => (isStrs xs).bind fun ys => joinD z ys
  | .index, .lst xs, [y] => (match toPys xs, shapedO (toPy y) with
    | some ps, some p => if SeqAt.shaped (.list ps) then (ps.findIdx? fun z => PyData.eqv z p).map fun k => .int k else none
    | _, _ => none)
  | _, _, _ => none
def pmT : PM → Dat → Bool
  | .join, .str _ => true
  | .index, .lst _ => true
  | _, _ => false
/-- a live list -/
def isLst (s : St) : Dat → Bool
  | .obj i => (match s[i]? with
    | some (.lst _) => true
    | _ => false)
  | _ => false
/-- a live list is changed -/
def lmD : LM → List Dat → List Dat → Option (List Dat × Dat)
  | .append, xs, [y] => if Nat.blt xs.length BIG then some (xs ++ [y], .non) else none
  | .extend, xs, [.lst ys] => if big (xs.length + ys.length) then some (xs ++ ys, .non) else none
  | .insert, xs, [.int i, y] => if Nat.blt xs.length BIG && decide (0 ≤ i ∧ i ≤ xs.length) then some (xs.take i.toNat ++ y :: xs.drop i.toNat, .non) else none
  | _, _, _ => none
def fmtD : Dat → Option Str
  | .str y => if big y.length then some y else none
  | .int i => if decide (i.natAbs.log2 < 1920) then some (toString i) else none
  | _ => none
def keyD : Dat → Option L2.Key
  | .int i => some (.inl i)
  | .str x => some (.inr x)
  | _ => none
def valD (kvs : List (L2.Key × Dat)) (k : L2.Key) : Option Dat := (kvs.find? fun kv => decide (kv.1 = k)).map (·.2)
def putD (k : L2.Key) (v : Dat) (kvs : List (L2.Key × Dat)) : List (L2.Key × Dat) :=
  if (kvs.any fun kv => decide (kv.1 = k)) = true then kvs.map (fun kv => if kv.1 = k then (kv.1, v) else kv) else kvs ++ [(k, v)]
def setIxD (c : Cell) (i v : Dat) : Option Cell := match c with
  | .lst xs => (match i with
    | .int k => (L2.ixN xs.length k).map fun j => .lst (xs.set j v)
    | _ => none)
  | .dic kvs => (match keyD i with
    | some k => if Nat.blt kvs.length BIG then some (.dic (putD k v kvs)) else none
    | none => none)
  | _ => none
def putK (k : Nat) (v : Dat) : List (Nat × Dat) → List (Nat × Dat)
  | [] => [(k, v)]
  | p :: r => if p.1 = k then (k, v) :: r else p :: putK k v r
def permD (pm : List (Sum Nat Dat)) (ds : List Dat) : Option (List Dat) := match pm with
  | [] => some []
  | .inl k :: r => (match ds[k]?, permD r ds with
    | some d, some q => some (d :: q)
    | _, _ => none)
  | .inr d :: r => (permD r ds).map (d :: ·)

def loopC (f : Dat → St → Res (Option Dat)) : List Dat → St → Res (List Dat)
  | [], s => .ok [] s
  | x :: r, s => (f x s).bnd fun o s => (loopC f r s).bnd fun ys s => .ok (o.toList ++ ys) s
inductive Fl where
  | nx | rt (d : Dat) | bk | ct
def loopF (f : Dat → Env → St → Res (Fl × Env)) : List Dat → Env → St → Res (Fl × Env)
  | [], δ, s => .ok (.nx, δ) s
  | x :: r, δ, s => (f x δ s).bnd fun p s => match p.1 with
    | .nx => loopF f r p.2 s
    | .ct => loopF f r p.2 s
    | .bk => .ok (.nx, p.2) s
    | .rt d => .ok (.rt d, p.2) s
def loopW (c : Env → St → Res Bool) (f : Env → St → Res (Fl × Env)) : Nat → Env → St → Res (Fl × Env)
  | 0, _, _ => .stuck
  | n + 1, δ, s => (c δ s).bnd fun b s => if b = true then (f δ s).bnd fun p s => match p.1 with
    | .nx => loopW c f n p.2 s
    | .ct => loopW c f n p.2 s
    | .bk => .ok (.nx, p.2) s
    | .rt d => .ok (.rt d, p.2) s else .ok (.nx, δ) s
abbrev Fun := Nat → List Dat → St → Res Dat
def setAll (ps : List (Nat × Dat)) (δ : Env) : Env := ps.foldl (fun δ p => δ.set p.1 (some p.2)) δ

section
variable (P : Prog) (Φ Ψ : Fun)
mutual
def ev : IE → Env → St → Res Dat
  | .const d, _, s => .ok d s
  | .var i, δ, s => opt (δ.getD i none) s
  | .bin op a b, δ, s => (ev a δ s).bnd fun x s => (ev b δ s).bnd fun y s => opt (binop op (view s (raw x)) (view s (raw y))) s
  | .neg a, δ, s => (ev a δ s).bnd fun x s => opt (match x with
    | .int i => some (.int (-i))
    | _ => none) s
  | .inv a, δ, s => (ev a δ s).bnd fun x s => opt (match x with
    | .int i => some (.int (Builtin.bitNot i))
    | _ => none) s
  | .cmp op a b, δ, s => (ev a δ s).bnd fun x s => (ev b δ s).bnd fun y s => match ownEq P op (view s (raw x)) (view s (raw y)) with
    | some (f, neg) => (Ψ f [raw x, raw y] s).bnd fun d s => (match d with
      | .bl k => .ok (.bl (k != neg)) s
      | _ => .stuck)
    | none => opt ((cmpop op (view s (raw x)) (view s (raw y))).map .bl) s
  | .chain op op2 a b c, δ, s => (ev a δ s).bnd fun x s => (ev b δ s).bnd fun y s => (opt (cmpop op (view s (raw x)) (view s (raw y))) s).bnd fun k s =>
      if k = true then (ev c δ s).bnd fun z s => opt ((cmpop op2 (view s (raw y)) (view s (raw z))).map .bl) s else .ok (.bl false) s
  | .and_ a b, δ, s => (ev a δ s).bnd fun x s => (opt (truth (view s (raw x))) s).bnd fun k s => if k = true then ev b δ s else .ok (raw x) s
  | .or_ a b, δ, s => (ev a δ s).bnd fun x s => (opt (truth (view s (raw x))) s).bnd fun k s => if k = true then .ok (raw x) s else ev b δ s
  | .not_ a, δ, s => (ev a δ s).bnd fun x s => (opt (truth (view s (raw x))) s).bnd fun k s => .ok (.bl (!k)) s
  | .ite c a b, δ, s => (evT c δ s).bnd fun k s => if k = true then ev a δ s else ev b δ s
  | .call f as pm, δ, s => (evs as δ s).bnd fun ds s => (opt (permD pm ds) s).bnd fun vs s => Φ f vs s
  | .make c as pm, δ, s => (evs as δ s).bnd fun ds s => (opt (permD pm ds) s).bnd fun vs s => match P.clss[c]? with
    | some q => (match q.init with
      | some f => (Ψ f (.obj s.length :: vs) (s ++ [.ins c []])).bnd fun r s' => if isNonD r then (if q.lv then .ok (.obj s.length) (s'.take (s.length + 1)) else
          (settle (.obj s.length) s').bnd fun d s' => .ok d (s'.take s.length)) else .stuck
      | none => .stuck)
    | none => .stuck
  | .meth m o as, δ, s => (ev o δ s).bnd fun x s => match view s (raw x) with
    | .ins c fs => (match P.clss[c]? with
      | some q => (match q.meths.lookup m, fs.lookup m with
        | some f, none => (evs as δ s).bnd fun ds s => if npOf P f = ds.length + 1 then Φ f (raw x :: ds) s else .stuck
        | _, _ => .stuck)
      | none => .stuck)
    | _ => .stuck
  | .bi b a, δ, s => (ev a δ s).bnd fun x s => opt (biD b (view s (raw x))) s
  | .bi2 b a c, δ, s => (ev a δ s).bnd fun x s => (ev c δ s).bnd fun y s => opt (bi2D b (view s (raw x)) (view s (raw y))) s
  | .range a, δ, s => (ev a δ s).bnd fun x s => match x with
    | .int j => if rngOk j && big j.toNat then .ok (.fl (rngD 0 j)) s else .stuck
    | _ => .stuck
  | .sortBy f a, δ, s => (ev a δ s).bnd fun x s => match view s (raw x) with
    | .lst xs => (loopC (fun x s => (Φ f [x] s).bnd fun k s => .ok (some k) s) xs s).calm.bnd fun ks s => if okSort ks then .ok (.fl (sortZ (ks.zip xs))) s else .stuck
    | _ => .stuck
  | .isi a cs, δ, s => (ev a δ s).bnd fun x s => if isiOk P (view s (raw x)) then .ok (.bl (cs.any (isiD P (view s (raw x))))) s else .stuck
  | .fld a k, δ, s => (ev a δ s).bnd fun x s => opt (fldD P (view s (raw x)) k) s
  | .ix a i, δ, s => (ev a δ s).bnd fun x s => (ev i δ s).bnd fun y s => opt (ixD (view s (raw x)) y) s
  | .sl a lo hi, δ, s => (ev a δ s).bnd fun x s => (evO lo δ s).bnd fun l s => (evO hi δ s).bnd fun h s => opt (slD (view s (raw x)) l h) s
  | .disp es, δ, s => (evD es δ s).bnd fun ds s => if big ds.length then .ok (.fl ds) s else .stuck
  | .tupl es, δ, s => (evD es δ s).bnd fun ds s => if big ds.length then .ok (.tup ds) s else .stuck
  | .comp elt tg it cond wp, δ, s => (evI it δ s).bnd fun xs s => if big xs.length then (loopC (fun x s => (opt (bindT tg x (wipeE δ wp)) s).bnd fun δ s =>
      (match cond with
        | none => Res.ok true s
        | some c => evT c δ s).bnd fun k s => if k = true then (ev elt δ s).bnd fun y s => (settle y s).bnd fun y s => .ok (some y) s else .ok none s) xs s).calm.bnd fun ys s => .ok (.fl ys) s else .stuck
  | .lm m o as, δ, s => (ev o δ s).bnd fun x s => if isLst s x then (evD as δ s).bnd fun ds s => match x with
    | .obj i => (match s[i]? with
      | some (.lst xs) => (match lmD m xs ds with
        | some (ys, r) => .ok r (s.set i (.lst ys))
        | none => .stuck)
      | _ => .stuck)
    | _ => .stuck else .stuck
  | .pm m o as, δ, s => (ev o δ s).bnd fun x s => if pmT m (view s (raw x)) then (evs as δ s).bnd fun ds s => opt (pmD m (view s (raw x)) (ds.map (view s))) s else .stuck
  | .fstr es, δ, s => evF es Str.empty δ s
  | .newd, _, s => .ok (.fd []) s
  | .str_ m a, δ, s => (ev a δ s).bnd fun x s => match view s (raw x) with
    | .ins c _ => (match P.clss[c]? with
      | some q => (match q.meths.lookup m with
        | some f => (Φ f [raw x] s).bnd fun d s => if isStr d then .ok d s else .stuck
        | none => .stuck)
      | none => .stuck)
    | d => opt (biD .str d) s
  | .heard e b h, δ, s => match ev e δ s with
    | .ok _ s' => .ok .non (s'.take s.length)
    | .err c fs s' => if excQ P c && belowC P c [b] then opt (evH P c fs h) (s'.take s.length) else .stuck
    | .stuck => .stuck
  | .supr g cs w es, δ, s => (opt (δ.getD 0 none) s).bnd fun x s => match x with
    | .obj i => (match s[i]? with
      | some (.ins c _) => if cs.contains c then (ev w δ s).bnd fun d s => (settle d s).bnd fun d s => (evD es δ s).bnd fun rs s => if big rs.length then Φ g [.obj i, d, .tup rs] s else .stuck else .stuck
      | _ => .stuck)
    | _ => .stuck
def evT : IT → Env → St → Res Bool
  | .not_ a, δ, s => (evT a δ s).bnd fun k s => .ok (!k) s
  | .and_ a b, δ, s => (evT a δ s).bnd fun k s => if k = true then evT b δ s else .ok false s
  | .or_ a b, δ, s => (evT a δ s).bnd fun k s => if k = true then .ok true s else evT b δ s
  | .val e, δ, s => (ev e δ s).bnd fun x s => opt (truth (view s (raw x))) s
def evs : List IE → Env → St → Res (List Dat)
  | [], _, s => .ok [] s
  | e :: r, δ, s => (ev e δ s).bnd fun d s => (evs r δ s).bnd fun ds s => .ok (raw d :: ds) s
def evD : List IE → Env → St → Res (List Dat)
  | [], _, s => .ok [] s
  | e :: r, δ, s => (ev e δ s).bnd fun d s => (settle d s).bnd fun d s => (evD r δ s).bnd fun ds s => .ok (d :: ds) s
def evF : List IE → Str → Env → St → Res Dat
  | [], acc, _, s => .ok (.str acc) s
  | e :: r, acc, δ, s => (ev e δ s).bnd fun d s => (opt (fmtD d) s).bnd fun y s => if big (acc ++ y).length then evF r (acc ++ y) δ s else .stuck
def evO : Option IE → Env → St → Res (Option Int)
  | none, _, s => .ok none s
  | some e, δ, s => (ev e δ s).bnd fun x s => match x with
    | .int i => .ok (some i) s
    | _ => .stuck
def evI : It → Env → St → Res (List Dat)
  | .val e, δ, s => (ev e δ s).bnd fun d s => (settle d s).bnd fun d s => opt (seqOf d) s
  | .rng1 a, δ, s => (ev a δ s).bnd fun x s => match x with
    | .int j => if rngOk j then .ok (rngD 0 j) s else .stuck
    | _ => .stuck
  | .rng2 a b, δ, s => (ev a δ s).bnd fun x s => (ev b δ s).bnd fun y s => match x, y with
    | .int i, .int j => if rngOk i && rngOk j then .ok (rngD i j) s else .stuck
    | _, _ => .stuck
  | .enum e, δ, s => (ev e δ s).bnd fun d s => (settle d s).bnd fun d s => match d with
    | .lst xs => .ok (xs.zipIdx.map fun p => .tup [.int p.2, p.1]) s
    | _ => .stuck
  | .zip2 a b, δ, s => (ev a δ s).bnd fun x s => (settle x s).bnd fun x s => (ev b δ s).bnd fun y s => (settle y s).bnd fun y s => match seqOf x, seqOf y with
    | some xs, some ys => if isTupD x == isTupD y then .ok ((xs.zip ys).map fun p => .tup [p.1, p.2]) s else .stuck
    | _, _ => .stuck
  | .zip3 a b c, δ, s => (ev a δ s).bnd fun x s => (settle x s).bnd fun x s => (ev b δ s).bnd fun y s => (settle y s).bnd fun y s => (ev c δ s).bnd fun z s => (settle z s).bnd fun z s =>
      match seqOf x, seqOf y, seqOf z with
    | some xs, some ys, some zs => if isTupD x || isTupD y || isTupD z || xs.length != ys.length || xs.length != zs.length then .stuck else .ok ((xs.zip (ys.zip zs)).map fun p => .tup [p.1, p.2.1, p.2.2]) s
    | _, _, _ => .stuck
end
end
end Z
namespace Z
open PySem
open Res
/-- statements' end: the flow, the names -/
abbrev REx := Res (Fl × Env)
def storeFld (P : Prog) (o : Dat) (k : Nat) (v : Dat) (s : St) : Res Unit := match o with
  | .obj i => (match s[i]? with
    | some (.ins c fs) => if Nat.blt fs.length 900 && datC P c k then .ok () (s.set i (.ins c (putK k v fs))) else .stuck
    | _ => .stuck)
  | _ => .stuck
def storeIx (o i v : Dat) (s : St) : Res Unit := match o with
  | .obj k => (match s[k]? with
    | some c => (match setIxD c i v with
      | some c' => .ok () (s.set k c')
      | none => .stuck)
    | none => .stuck)
  | _ => .stuck
section
variable (P : Prog) (Φ Ψ : Fun)
mutual
def exS : IS → Env → St → REx
  | .expr e, δ, s => (ev P Φ Ψ e δ s).bnd fun _ s => .ok (.nx, δ) s
  | .ret lv e, δ, s => (ev P Φ Ψ e δ s).bnd fun d s => (if lv then live d s else settle d s).bnd fun d s => .ok (.rt d, δ) s
  | .retN, δ, s => .ok (.rt .non, δ) s
  | .asg i lv e, δ, s => (ev P Φ Ψ e δ s).bnd fun d s => (if lv then live d s else .ok (raw d) s).bnd fun d s => .ok (.nx, δ.set i (some d)) s
  | .asgT is e, δ, s => (ev P Φ Ψ e δ s).bnd fun d s => (settle d s).bnd fun d s => (opt (bindT (.tup is) d δ) s).bnd fun δ s => .ok (.nx, δ) s
  | .par is es, δ, s => (parG is es δ s).bnd fun ps s => .ok (.nx, setAll ps δ) s
  | .setIx o i e, δ, s => (ev P Φ Ψ e δ s).bnd fun v s => (settle v s).bnd fun v s => (ev P Φ Ψ o δ s).bnd fun o s => (ev P Φ Ψ i δ s).bnd fun i s => (storeIx o i v s).bnd fun _ s => .ok (.nx, δ) s
  | .setFld o k e, δ, s => (ev P Φ Ψ e δ s).bnd fun v s => (settle v s).bnd fun v s => (ev P Φ Ψ o δ s).bnd fun o s => (storeFld P o k v s).bnd fun _ s => .ok (.nx, δ) s
  | .augN i op e, δ, s => (opt (δ.getD i none) s).bnd fun x s => (ev P Φ Ψ e δ s).bnd fun y s => (opt (match x, y with
      | .int _, .int _ => binop op x y
      | _, _ => none) s).bnd fun z s => .ok (.nx, δ.set i (some z)) s
  | .augIx o i op e, δ, s => (ev P Φ Ψ o δ s).bnd fun o s => (ev P Φ Ψ i δ s).bnd fun i s => if isLst s o then (opt (ixL (view s o) i) s).bnd fun x s => (ev P Φ Ψ e δ s).bnd fun y s => (opt (match x, y with
      | .int _, .int _ => binop op x y
      | _, _ => none) s).bnd fun z s => (storeIx o i z s).bnd fun _ s => .ok (.nx, δ) s else .stuck
  | .ifs c a b, δ, s => (evT P Φ Ψ c δ s).bnd fun k s => if k = true then exB a δ s else exB b δ s
  | .forS tg it b, δ, s => (evI P Φ Ψ it δ s).bnd fun xs s => loopF (fun x δ s => (opt (bindT tg x δ) s).bnd fun δ s => exB b δ s) xs δ s
  | .whil c b, δ, s => loopW (evT P Φ Ψ c) (exB b) 100000 δ s
  | .rais c as, δ, s => (evD P Φ Ψ as δ s).bnd fun ds s => match P.clss[c]? with
    | some q => if ds.length = q.flds.length then .err c (q.flds.zip ds).reverse s else .stuck
    | none => .stuck
  | .pass, δ, s => .ok (.nx, δ) s
  | .brk, δ, s => .ok (.bk, δ) s
  | .cnt, δ, s => .ok (.ct, δ) s
def exB : List IS → Env → St → REx
  | [], δ, s => .ok (.nx, δ) s
  | c :: r, δ, s => (exS c δ s).bnd fun p s => match p.1 with
    | .nx => exB r p.2 s
    | f => .ok (f, p.2) s
def parG : List (Nat × Bool) → List IE → Env → St → Res (List (Nat × Dat))
  | [], [], _, s => .ok [] s
  | i :: is, e :: es, δ, s => (ev P Φ Ψ e δ s).bnd fun d s => (if i.2 then live d s else .ok (raw d) s).bnd fun d s => (parG is es δ s).bnd fun ps s => .ok ((i.1, d) :: ps) s
  | _, _, _, _ => .stuck
end
/-- a function called -/
def runF (f : FunI) (args : List Dat) (s : St) : Res Dat := if args.length = f.np then (match exB P Φ Ψ f.body (args.map some ++ List.replicate (f.N - f.np) none) s with
  | .ok (.nx, _) s' => .ok .non (s'.take s.length)
  | .ok (.rt d, _) s' => (match d with
    | .obj i => if i = s.length then .ok d (s'.take (s.length + 1)) else .stuck
    | d => .ok d (s'.take s.length))
  | .ok _ _ => .stuck
  | .err c fs s' => .err c fs (s'.take s.length)
  | .stuck => .stuck) else .stuck
end
def callF (P : Prog) : Nat → Fun
  | 0 => fun _ _ _ => .stuck
  | 1 => fun f args s => match P.funs[f]? with
    | some q => runF P (fun _ _ _ => .stuck) (fun _ _ _ => .stuck) q args s
    | none => .stuck
  | n + 2 => fun f args s => match P.funs[f]? with
    | some q => runF P (callF P (n + 1)) (callF P n) q args s
    | none => .stuck
end Z

set_option linter.all false
set_option maxRecDepth 100000
set_option maxHeartbeats 2000000
namespace Z
open PySem PySem.Spec PyProof.Rows
open L2 (V Hp HO Key VK XK TE TT TA TS TG WX Cx Inv Ends SqL SqT Same upd upd_same upd_ne ne_of ne_of_none)
/-- the classes' addresses, the attributes' names -/
structure Nm where
  cls : Nat → Addr
  att : Nat → Str
  inj : ∀ i j, att i = att j → i = j
/-- what is frozen, where live objects stand -/
structure Gw where
  F : Hp
  ι : Nat → Addr
  B : Hp
section
variable (K : PySem.W.Frag) (NM : Nm)
mutual
inductive RepV (F : Hp) : V → Dat → Prop
  | non : RepV F .non .non
  | bl (b : Bool) : RepV F (.bl b) (.bl b)
  | int (i : Int) : RepV F (.int i) (.int i)
  | str (x : Str) : RepV F (.str x) (.str x)
  | lst {a : Addr} {xs : List V} {ds : List Dat} : F a = some (.lst xs) → RepVs F xs ds → RepV F (.ref a) (.lst ds)
  | tup {a : Addr} {xs : List V} {ds : List Dat} : SqT K F a xs → RepVs F xs ds → RepV F (.ref a) (.tup ds)
  | rol {a : Addr} {ns : List Int} : SqL K F a (ns.map V.int) → RepV F (.ref a) (.rol ns)
  | dic {a : Addr} {ks : List (Key × V)} {kvs : List (Key × Dat)} : F a = some (.dK ks) → RepK F ks kvs → RepV F (.ref a) (.dic kvs)
  | ins {a dx : Addr} {c : Nat} {gs : List (Str × V)} {fs : List (Nat × Dat)} : F a = some (.ins (NM.cls c) dx gs) → RepF F gs fs → RepV F (.ref a) (.ins c fs)
inductive RepVs (F : Hp) : List V → List Dat → Prop
  | nil : RepVs F [] []
  | cons {v : V} {d : Dat} {vs : List V} {ds : List Dat} : RepV F v d → RepVs F vs ds → RepVs F (v :: vs) (d :: ds)
inductive RepK (F : Hp) : List (Key × V) → List (Key × Dat) → Prop
  | nil : RepK F [] []
  | cons {k : Key} {v : V} {d : Dat} {vs : List (Key × V)} {ds : List (Key × Dat)} : RepV F v d → RepK F vs ds → RepK F ((k, v) :: vs) ((k, d) :: ds)
inductive RepF (F : Hp) : List (Str × V) → List (Nat × Dat) → Prop
  | nil : RepF F [] []
  | cons {k : Nat} {v : V} {d : Dat} {vs : List (Str × V)} {ds : List (Nat × Dat)} : RepV F v d → RepF F vs ds → RepF F ((NM.att k, v) :: vs) ((k, d) :: ds)
end
variable {K NM}
theorem Rd.mono {F F' : Hp} (h : ∀ a o, F a = some o → F' a = some o) {a : Addr} {u : HO} (r : L2.Rd F a u) : L2.Rd F' a u := by
  rcases r with r | ⟨o, r⟩
  · exact .inl (h _ _ r)
  · exact .inr ⟨o, h _ _ r⟩
theorem SqL_mono {F F' : Hp} (h : ∀ a o, F a = some o → F' a = some o) {a : Addr} {xs : List V} (r : SqL K F a xs) : SqL K F' a xs := by
  rcases r with r | r
  · exact .inl (Rd.mono h r)
  · exact .inr r
theorem SqT_mono {F F' : Hp} (h : ∀ a o, F a = some o → F' a = some o) {a : Addr} {xs : List V} (r : SqT K F a xs) : SqT K F' a xs := by
  rcases r with r | r
  · exact .inl (Rd.mono h r)
  · exact .inr r
section
variable {F F' : Hp} (h : ∀ a o, F a = some o → F' a = some o)
include h
mutual
theorem RepV.mono : ∀ {v : V} {d : Dat}, RepV K NM F v d → RepV K NM F' v d
  | _, _, .non => .non
  | _, _, .bl b => .bl b
  | _, _, .int i => .int i
  | _, _, .str x => .str x
  | _, _, .lst e r => .lst (h _ _ e) (RepVs.mono r)
  | _, _, .tup e r => .tup (SqT_mono h e) (RepVs.mono r)
  | _, _, .rol e => .rol (SqL_mono h e)
  | _, _, .dic e r => .dic (h _ _ e) (RepK.mono r)
  | _, _, .ins e r => .ins (h _ _ e) (RepF.mono r)
theorem RepVs.mono : ∀ {vs : List V} {ds : List Dat}, RepVs K NM F vs ds → RepVs K NM F' vs ds
  | _, _, .nil => .nil
  | _, _, .cons a b => .cons (RepV.mono a) (RepVs.mono b)
theorem RepK.mono : ∀ {vs : List (Key × V)} {ds : List (Key × Dat)}, RepK K NM F vs ds → RepK K NM F' vs ds
  | _, _, .nil => .nil
  | _, _, .cons a b => .cons (RepV.mono a) (RepK.mono b)
theorem RepF.mono : ∀ {vs : List (Str × V)} {ds : List (Nat × Dat)}, RepF K NM F vs ds → RepF K NM F' vs ds
  | _, _, .nil => .nil
  | _, _, .cons a b => .cons (RepV.mono a) (RepF.mono b)
end
end
theorem RepVs.length {F : Hp} : ∀ {vs : List V} {ds : List Dat}, RepVs K NM F vs ds → vs.length = ds.length
  | _, _, .nil => rfl
  | _, _, .cons _ r => congrArg (· + 1) (RepVs.length r)
theorem RepVs.get {F : Hp} : ∀ {vs : List V} {ds : List Dat} {i : Nat} {v : V}, RepVs K NM F vs ds → vs[i]? = some v → ∃ d, ds[i]? = some d ∧ RepV K NM F v d
  | _, _, _, _, .nil, e => by simp at e
  | _, _, 0, _, .cons r _, e => by simp at e; subst e; exact ⟨_, rfl, r⟩
  | _, _, i + 1, v, .cons _ t, e => by
    obtain ⟨d, h1, h2⟩ := RepVs.get (i := i) (v := v) t (by simpa using e)
    exact ⟨d, by simpa using h1, h2⟩
theorem RepVs.get' {F : Hp} : ∀ {vs : List V} {ds : List Dat} {i : Nat} {d : Dat}, RepVs K NM F vs ds → ds[i]? = some d → ∃ v, vs[i]? = some v ∧ RepV K NM F v d
  | _, _, _, _, .nil, e => by simp at e
  | _, _, 0, _, .cons r _, e => by simp at e; subst e; exact ⟨_, rfl, r⟩
  | _, _, i + 1, d, .cons _ t, e => by
    obtain ⟨v, h1, h2⟩ := RepVs.get' (i := i) (d := d) t (by simpa using e)
    exact ⟨v, by simpa using h1, h2⟩
theorem RepVs.append {F : Hp} : ∀ {xs ys : List V} {ds es : List Dat}, RepVs K NM F xs ds → RepVs K NM F ys es → RepVs K NM F (xs ++ ys) (ds ++ es)
  | _, _, _, _, .nil, s => s
  | _, _, _, _, .cons r t, s => .cons r (RepVs.append t s)
theorem RepVs.take {F : Hp} : ∀ {xs : List V} {ds : List Dat} (n : Nat), RepVs K NM F xs ds → RepVs K NM F (xs.take n) (ds.take n)
  | _, _, 0, _ => .nil
  | _, _, _ + 1, .nil => .nil
  | _, _, n + 1, .cons r t => .cons r (RepVs.take n t)
theorem RepVs.drop {F : Hp} : ∀ {xs : List V} {ds : List Dat} (n : Nat), RepVs K NM F xs ds → RepVs K NM F (xs.drop n) (ds.drop n)
  | _, _, 0, r => r
  | _, _, _ + 1, .nil => .nil
  | _, _, n + 1, .cons _ t => RepVs.drop n t
theorem RepVs.set {F : Hp} {x : V} {d : Dat} (r : RepV K NM F x d) : ∀ {xs : List V} {ds : List Dat} (i : Nat), RepVs K NM F xs ds → RepVs K NM F (xs.set i x) (ds.set i d)
  | _, _, _, .nil => .nil
  | _, _, 0, .cons _ t => .cons r t
  | _, _, i + 1, .cons q t => .cons q (RepVs.set r i t)
theorem RepVs.flatten {F : Hp} {xs : List V} {ds : List Dat} (r : RepVs K NM F xs ds) : ∀ k : Nat, RepVs K NM F (List.replicate k xs).flatten (List.replicate k ds).flatten
  | 0 => .nil
  | k + 1 => by
    rw [List.replicate_succ, List.replicate_succ, List.flatten_cons, List.flatten_cons]
    exact r.append (RepVs.flatten r k)
theorem RepVs.ints {F : Hp} : ∀ (ns : List Int), RepVs K NM F (ns.map V.int) (ns.map Dat.int)
  | [] => .nil
  | n :: r => .cons (.int n) (RepVs.ints r)
theorem RepVs.of_ints {F : Hp} : ∀ {xs : List V} {ds : List Dat} {ns : List Int}, RepVs K NM F xs ds → isInts ds = some ns → xs = ns.map V.int ∧ ds = ns.map Dat.int
  | _, _, ns, .nil, e => by
    have e' : some [] = some ns := e
    cases e'
    exact ⟨rfl, rfl⟩
  | _, _, ns, .cons (d := d) (ds := ds) r t, e => by
    cases r with
    | int i =>
      have e' : (isInts ds).map (i :: ·) = some ns := e
      cases q : isInts ds with
      | none => rw [q] at e'; cases e'
      | some ms =>
        rw [q] at e'
        cases e'
        obtain ⟨h1, h2⟩ := RepVs.of_ints t q
        exact ⟨by rw [h1]; rfl, by rw [h2]; rfl⟩
    | _ => cases e
theorem RepVs.of_bls {F : Hp} : ∀ {xs : List V} {ds : List Dat} {bs : List Bool}, RepVs K NM F xs ds → isBls ds = some bs → xs = bs.map V.bl ∧ ds = bs.map Dat.bl
  | _, _, ns, .nil, e => by
    have e' : some [] = some ns := e
    cases e'
    exact ⟨rfl, rfl⟩
  | _, _, ns, .cons (d := d) (ds := ds) r t, e => by
    cases r with
    | bl i =>
      have e' : (isBls ds).map (i :: ·) = some ns := e
      cases q : isBls ds with
      | none => rw [q] at e'; cases e'
      | some ms =>
        rw [q] at e'
        cases e'
        obtain ⟨h1, h2⟩ := RepVs.of_bls t q
        exact ⟨by rw [h1]; rfl, by rw [h2]; rfl⟩
    | _ => cases e
theorem RepVs.of_strs {F : Hp} : ∀ {xs : List V} {ds : List Dat} {bs : List Str}, RepVs K NM F xs ds → isStrs ds = some bs → xs = bs.map V.str ∧ ds = bs.map Dat.str
  | _, _, ns, .nil, e => by
    have e' : some [] = some ns := e
    cases e'
    exact ⟨rfl, rfl⟩
  | _, _, ns, .cons (d := d) (ds := ds) r t, e => by
    cases r with
    | str i =>
      have e' : (isStrs ds).map (i :: ·) = some ns := e
      cases q : isStrs ds with
      | none => rw [q] at e'; cases e'
      | some ms =>
        rw [q] at e'
        cases e'
        obtain ⟨h1, h2⟩ := RepVs.of_strs t q
        exact ⟨by rw [h1]; rfl, by rw [h2]; rfl⟩
    | _ => cases e
theorem RepF.lookup {F : Hp} {k : Nat} : ∀ {gs : List (Str × V)} {fs : List (Nat × Dat)}, RepF K NM F gs fs → match fs.lookup k with
    | some d => ∃ v, gs.lookup (NM.att k) = some v ∧ RepV K NM F v d
    | none => gs.lookup (NM.att k) = none
  | _, _, .nil => rfl
  | _, _, .cons (k := j) (v := v) (d := d) (vs := gs) (ds := fs) r t => by
    have ih := RepF.lookup (k := k) t
    by_cases e : k = j
    · subst e
      have e1 : List.lookup k ((k, d) :: fs) = some d := by simp [List.lookup]
      have e2 : List.lookup (NM.att k) ((NM.att k, v) :: gs) = some v := by simp [List.lookup]
      rw [e1]
      exact ⟨v, e2, r⟩
    · have e1 : List.lookup k ((j, d) :: fs) = List.lookup k fs := by
        have q : (k == j) = false := by simpa using e
        simp [List.lookup, q]
      have e2 : List.lookup (NM.att k) ((NM.att j, v) :: gs) = List.lookup (NM.att k) gs := by
        have q : (NM.att k == NM.att j) = false := by
          simp only [beq_eq_false_iff_ne, ne_eq]
          exact fun z => e (NM.inj _ _ z)
        simp [List.lookup, q]
      rw [e1, e2]
      exact ih
theorem RepF.put {F : Hp} {k : Nat} {v : V} {d : Dat} (r : RepV K NM F v d) : ∀ {gs : List (Str × V)} {fs : List (Nat × Dat)}, RepF K NM F gs fs → RepF K NM F (L2.putF (NM.att k) v gs) (putK k d fs)
  | _, _, .nil => .cons r .nil
  | _, _, .cons (k := j) (v := v') (d := d') (vs := gs) (ds := fs) r' t => by
    by_cases e : j = k
    · subst e
      have e1 : L2.putF (NM.att j) v ((NM.att j, v') :: gs) = (NM.att j, v) :: gs := if_pos rfl
      have e2 : putK j d ((j, d') :: fs) = (j, d) :: fs := if_pos rfl
      rw [e1, e2]
      exact .cons r t
    · have e1 : L2.putF (NM.att k) v ((NM.att j, v') :: gs) = (NM.att j, v') :: L2.putF (NM.att k) v gs := if_neg fun z => e (NM.inj _ _ z)
      have e2 : putK k d ((j, d') :: fs) = (j, d') :: putK k d fs := if_neg e
      rw [e1, e2]
      exact .cons r' (RepF.put r t)
theorem RepF.len {F : Hp} : ∀ {gs : List (Str × V)} {fs : List (Nat × Dat)}, RepF K NM F gs fs → gs.length = fs.length
  | _, _, .nil => rfl
  | _, _, .cons _ r => congrArg (· + 1) (RepF.len r)
end
end Z

set_option linter.all false
set_option maxRecDepth 100000
set_option maxHeartbeats 2000000
namespace Z
open PySem PySem.Spec PyProof.Rows
open L2 (V Hp HO Key VK XK TE TT TA TS TG WX Cx Inv Ends SqL SqT Same upd upd_same upd_ne ne_of ne_of_none)
/-- what a live object is -/
def Lv : Option HO → Prop
  | some (.lst _) => True
  | some (.dK _) => True
  | some (.ins _ _ _) => True
  | _ => False
/-- something of the heap that every step keeps: new objects, changed lists, dicts, instances are nothing to it -/
structure TbP (TB : Hp → Prop) : Prop where
  ext : ∀ H H' : Hp, TB H → Same H H' → TB H'
  wr : ∀ (H : Hp) (a : Addr) (o : HO), TB H → Lv (H a) → TB (upd H a o)
section
variable (K : PySem.W.Frag) (NM : Nm) (TB : Hp → Prop)
def RepC (F : Hp) (H : Hp) (a : Addr) : Cell → Prop
  | .lst ds => ∃ xs, H a = some (.lst xs) ∧ F a = none ∧ RepVs K NM F xs ds
  | .ins c fs => ∃ dx gs, H a = some (.ins (NM.cls c) dx gs) ∧ F a = none ∧ RepF K NM F gs fs
  | .dic kvs => ∃ ks, H a = some (.dK ks) ∧ F a = none ∧ RepK K NM F ks kvs
  | .froz d => RepV K NM F (.ref a) d
def lv : Cell → Bool
  | .froz _ => false
  | _ => true
/-- the store st stands in the heap H -/
structure Rp (G : Gw) (H : Hp) (st : St) : Prop where
  sub : ∀ a o, G.F a = some o → H a = some o
  cells : ∀ i c, st[i]? = some c → RepC K NM G.F H (G.ι i) c
  inj : ∀ i j c d, st[i]? = some c → st[j]? = some d → lv c = true → lv d = true → G.ι i = G.ι j → i = j
  tb : TB H
  /-- lists that a comprehension makes: nobody sees them -/
  priv : ∀ a o, G.B a = some o → H a = some o ∧ G.F a = none ∧ ∀ i c, st[i]? = some c → lv c = true → G.ι i ≠ a
  /-- no table of codes among it -/
  nt : (∀ a ps, G.F a ≠ some (.tbl ps)) ∧ ∀ a ps, G.B a ≠ some (.tbl ps)
/-- a value of a name, an argument -/
def RepR (G : Gw) (n : Nat) (v : V) : Dat → Prop
  | .obj i => i < n ∧ v = .ref (G.ι i)
  | .fl _ => False
  | .fd _ => False
  | d => RepV K NM G.F v d
/-- a value just reckoned -/
def RepX (G : Gw) (H : Hp) (st : St) (v : V) : Dat → Prop
  | .obj i => i < st.length ∧ v = .ref (G.ι i)
  | .fl ds => ∃ a xs, v = .ref a ∧ H a = some (.lst xs) ∧ (G.F a = none ∧ G.B a = none) ∧ (∀ i c, st[i]? = some c → lv c = true → G.ι i ≠ a) ∧ RepVs K NM G.F xs ds
  | .fd kvs => ∃ a ks, v = .ref a ∧ H a = some (.dK ks) ∧ (G.F a = none ∧ G.B a = none) ∧ (∀ i c, st[i]? = some c → lv c = true → G.ι i ≠ a) ∧ RepK K NM G.F ks kvs
  | d => RepV K NM G.F v d
/-- the names -/
structure RepE (G : Gw) (n : Nat) (σ : L2.St) (δ : Env) : Prop where
  len : σ.length = δ.length
  at_ : ∀ (i : Nat) (d : Dat), δ[i]? = some (some d) → ∃ v, σ[i]? = some (some v) ∧ RepR K NM G n v d
/-- from (G, st) to (G', st') -/
structure Ext (G : Gw) (st : St) (G' : Gw) (st' : St) : Prop where
  sub : ∀ a o, G.F a = some o → G'.F a = some o
  len : st.length ≤ st'.length
  ι : ∀ i, i < st.length → G'.ι i = G.ι i
  B : G'.B = G.B
end
section
variable {K : PySem.W.Frag} {NM : Nm} {TB : Hp → Prop} {G G' G'' : Gw} {H H' : Hp} {st st' st'' : St} {σ : L2.St} {δ : Env} {v : V} {d : Dat}
theorem Ext.refl : Ext G st G st := ⟨fun _ _ h => h, Nat.le_refl _, fun _ _ => rfl, rfl⟩
theorem Ext.trans (a : Ext G st G' st') (b : Ext G' st' G'' st'') : Ext G st G'' st'' :=
  ⟨fun x o h => b.sub x o (a.sub x o h), Nat.le_trans a.len b.len, fun i h => (b.ι i (Nat.lt_of_lt_of_le h a.len)).trans (a.ι i h), b.B.trans a.B⟩
theorem RepR.ext (x : Ext G st G' st') (r : RepR K NM G st.length v d) : RepR K NM G' st'.length v d := by
  cases d with
  | obj i => exact ⟨Nat.lt_of_lt_of_le r.1 x.len, by rw [x.ι i r.1]; exact r.2⟩
  | fl _ => exact r
  | fd _ => exact r
  | _ => exact RepV.mono x.sub r
theorem RepE.ext (x : Ext G st G' st') (r : RepE K NM G st.length σ δ) : RepE K NM G' st'.length σ δ :=
  ⟨r.len, fun i d h => let ⟨v, h1, h2⟩ := r.at_ i d h; ⟨v, h1, h2.ext x⟩⟩
theorem RepV.toR (r : RepV K NM G.F v d) (n : Nat) : RepR K NM G n v d := by
  cases r <;> first | exact .non | exact .bl _ | exact .int _ | exact .str _ | exact .lst ‹_› ‹_› | exact .tup ‹_› ‹_› | exact .rol ‹_› | exact .dic ‹_› ‹_› | exact .ins ‹_› ‹_›
theorem RepV.toX (r : RepV K NM G.F v d) : RepX K NM G H st v d := by
  cases r <;> first | exact .non | exact .bl _ | exact .int _ | exact .str _ | exact .lst ‹_› ‹_› | exact .tup ‹_› ‹_› | exact .rol ‹_› | exact .dic ‹_› ‹_› | exact .ins ‹_› ‹_›
theorem RepR.toX (r : RepR K NM G st.length v d) : RepX K NM G H st v d := by
  cases d with
  | obj i => exact r
  | fl _ => exact r.elim
  | fd _ => exact r.elim
  | _ => exact r
/-- settled data -/
def isD : Dat → Bool
  | .obj _ => false
  | .fl _ => false
  | .fd _ => false
  | _ => true
theorem RepR.toV (r : RepR K NM G st.length v d) (h : isD d = true) : RepV K NM G.F v d := by
  cases d <;> first | exact r | cases h
theorem RepV.isD {F : Hp} (r : RepV K NM F v d) : isD d = true := by
  cases r <;> rfl
theorem RepC.mono {F F' : Hp} {a : Addr} {c : Cell} (h : ∀ a o, F a = some o → F' a = some o) (hn : lv c = true → F' a = none) (r : RepC K NM F H a c) : RepC K NM F' H a c := by
  cases c with
  | lst ds => obtain ⟨xs, h1, _, h3⟩ := r; exact ⟨xs, h1, hn rfl, RepVs.mono h h3⟩
  | ins c fs => obtain ⟨dx, gs, h1, _, h3⟩ := r; exact ⟨dx, gs, h1, hn rfl, RepF.mono h h3⟩
  | dic kvs => obtain ⟨ks, h1, _, h3⟩ := r; exact ⟨ks, h1, hn rfl, RepK.mono h h3⟩
  | froz d => exact RepV.mono h r
theorem RepC.heap {F : Hp} {a : Addr} {c : Cell} (h : lv c = true → ∀ o, H a = some o → H' a = some o) (r : RepC K NM F H a c) : RepC K NM F H' a c := by
  cases c with
  | lst ds => obtain ⟨xs, h1, h2, h3⟩ := r; exact ⟨xs, h rfl _ h1, h2, h3⟩
  | ins c fs => obtain ⟨dx, gs, h1, h2, h3⟩ := r; exact ⟨dx, gs, h rfl _ h1, h2, h3⟩
  | dic kvs => obtain ⟨ks, h1, h2, h3⟩ := r; exact ⟨ks, h rfl _ h1, h2, h3⟩
  | froz d => exact r
theorem RepC.live {F : Hp} {a : Addr} {c : Cell} (r : RepC K NM F H a c) (h : lv c = true) : Lv (H a) ∧ F a = none := by
  cases c with
  | lst ds => obtain ⟨xs, h1, h2, h3⟩ := r; rw [h1]; exact ⟨trivial, h2⟩
  | ins c fs => obtain ⟨dx, gs, h1, h2, h3⟩ := r; rw [h1]; exact ⟨trivial, h2⟩
  | dic kvs => obtain ⟨ks, h1, h2, h3⟩ := r; rw [h1]; exact ⟨trivial, h2⟩
  | froz d => cases h
theorem Lv.ne {H : Hp} {a p : Addr} (h : Lv (H a)) (hp : H p = none) : a ≠ p := fun z => by
  rw [z, hp] at h
  exact h
/-- the heap grows by what is nothing to us -/
theorem Rp.grow (tp : TbP TB) (r : Rp K NM TB G H st) (h : Same H H') : Rp K NM TB G H' st :=
  ⟨fun a o e => h a o (r.sub a o e), fun i c e => (r.cells i c e).heap fun _ o z => h _ o z, r.inj, tp.ext _ _ r.tb h, fun a o e => let ⟨h1, h2, h3⟩ := r.priv a o e; ⟨h a o h1, h2, h3⟩, r.nt⟩
theorem RepX.grow (h : Same H H') (r : RepX K NM G H st v d) : RepX K NM G H' st v d := by
  cases d with
  | fl ds => obtain ⟨a, xs, h1, h2, h3⟩ := r; exact ⟨a, xs, h1, h _ _ h2, h3⟩
  | fd ds => obtain ⟨a, xs, h1, h2, h3⟩ := r; exact ⟨a, xs, h1, h _ _ h2, h3⟩
  | _ => exact r
theorem same_upd {H : Hp} {p : Addr} {o : HO} (h : H p = none) : Same H (upd H p o) := fun b x e => by
  rw [upd_ne (ne_of_none e h)]
  exact e
theorem Rp.fresh (r : Rp K NM TB G H st) {p : Addr} (h : H p = none) : G.F p = none := by
  cases e : G.F p with
  | none => rfl
  | some o => rw [r.sub p o e] at h; cases h
theorem Rp.freshB (r : Rp K NM TB G H st) {p : Addr} (h : H p = none) : G.B p = none := by
  cases e : G.B p with
  | none => rfl
  | some o => rw [(r.priv p o e).1] at h; cases h
theorem Rp.apart (r : Rp K NM TB G H st) {p : Addr} (h : H p = none) : ∀ i c, st[i]? = some c → lv c = true → G.ι i ≠ p := fun i c e l => ((r.cells i c e).live l).1.ne h
/-- what is frozen: o at p -/
def Gw.put (G : Gw) (p : Addr) (o : HO) : Gw := ⟨upd G.F p o, G.ι, G.B⟩
theorem put_sub {p : Addr} {o : HO} (h : G.F p = none) : ∀ a u, G.F a = some u → (G.put p o).F a = some u := fun a u e => by
  show upd G.F p o a = some u
  rw [upd_ne (ne_of_none e h)]
  exact e
theorem put_at {p : Addr} {o : HO} : (G.put p o).F p = some o := upd_same
theorem put_nt {p : Addr} {o : HO} (ho : ∀ ps, o ≠ .tbl ps) (h : (∀ a ps, G.F a ≠ some (.tbl ps)) ∧ ∀ a ps, G.B a ≠ some (.tbl ps)) : (∀ a ps, (G.put p o).F a ≠ some (.tbl ps)) ∧ ∀ a ps, (G.put p o).B a ≠ some (.tbl ps) := by
  refine ⟨fun a ps e => ?_, h.2⟩
  have e : upd G.F p o a = some (.tbl ps) := e
  by_cases q : a = p
  · rw [q, upd_same] at e
    exact ho ps (Option.some.inj e)
  · rw [upd_ne q] at e
    exact h.1 a ps e
/-- an object that nobody holds is frozen -/
theorem Rp.freeze (r : Rp K NM TB G H st) {p : Addr} {o : HO} (h : H p = some o) (hf : G.F p = none ∧ G.B p = none) (ha : ∀ i c, st[i]? = some c → lv c = true → G.ι i ≠ p) (ho : ∀ ps, o ≠ .tbl ps := by intro ps h; cases h) :
    Ext G st (G.put p o) st ∧ Rp K NM TB (G.put p o) H st :=
  ⟨⟨put_sub hf.1, Nat.le_refl _, fun _ _ => rfl, rfl⟩, ⟨fun a u e => by
      by_cases q : a = p
      · have e' : upd G.F p o a = some u := e
        rw [q, upd_same] at e'
        rw [q, h, e']
      · have e' : upd G.F p o a = some u := e
        rw [upd_ne q] at e'
        exact r.sub a u e',
    fun i c e => (r.cells i c e).mono (put_sub hf.1) fun l => by
      show upd G.F p o (G.ι i) = none
      rw [upd_ne (ha i c e l)]
      exact ((r.cells i c e).live l).2, r.inj, r.tb, fun a u e => by
      obtain ⟨h1, h2, h3⟩ := r.priv a u e
      refine ⟨h1, ?_, h3⟩
      show upd G.F p o a = none
      rw [upd_ne fun z => by rw [z] at e; exact nomatch hf.2.symm.trans e]
      exact h2, put_nt ho r.nt⟩⟩
/-- .. a new one -/
theorem Rp.lay (tp : TbP TB) (r : Rp K NM TB G H st) {p : Addr} {o : HO} (h : H p = none) (ho : ∀ ps, o ≠ .tbl ps := by intro ps h; cases h) : Ext G st (G.put p o) st ∧ Rp K NM TB (G.put p o) (upd H p o) st :=
  (r.grow tp (same_upd h)).freeze upd_same ⟨r.fresh h, r.freshB h⟩ (r.apart h) ho
/-- a fresh value as data -/
theorem Rp.rawX (r : Rp K NM TB G H st) (x : RepX K NM G H st v d) : ∃ G', Ext G st G' st ∧ Rp K NM TB G' H st ∧ RepR K NM G' st.length v (raw d) := by
  cases d with
  | fl ds =>
    obtain ⟨a, xs, rfl, h2, h3, h4, h5⟩ := x
    obtain ⟨e, r'⟩ := r.freeze h2 h3 h4
    exact ⟨_, e, r', .lst put_at (h5.mono e.sub)⟩
  | fd kvs =>
    obtain ⟨a, xs, rfl, h2, h3, h4, h5⟩ := x
    obtain ⟨e, r'⟩ := r.freeze h2 h3 h4
    exact ⟨_, e, r', .dic put_at (RepK.mono e.sub h5)⟩
  | _ => exact ⟨G, .refl, r, x⟩
theorem set_get {α : Type} {l : List α} {i j : Nat} {a b : α} (h : (l.set i a)[j]? = some b) : (j = i ∧ b = a ∧ i < l.length) ∨ (j ≠ i ∧ l[j]? = some b) := by
  by_cases e : j = i
  · subst e
    by_cases hl : j < l.length
    · rw [List.getElem?_set_self hl] at h
      exact .inl ⟨rfl, (Option.some.inj h).symm, hl⟩
    · rw [List.getElem?_eq_none (by simpa using hl)] at h
      cases h
  · rw [List.getElem?_set_ne (Ne.symm e)] at h
    exact .inr ⟨e, h⟩
/-- a live cell's data -/
def Cell.dat : Cell → Dat
  | .lst xs => .lst xs
  | .ins c fs => .ins c fs
  | .dic kvs => .dic kvs
  | .froz d => d
theorem settle_obj {i : Nat} {c : Cell} (e : st[i]? = some c) : settle (.obj i) st = .ok c.dat (match c with
    | .froz _ => st
    | c => st.set i (.froz c.dat)) := by
  cases c <;> (simp only [settle, e]; rfl)
theorem view_obj {i : Nat} {c : Cell} (e : st[i]? = some c) : view st (.obj i) = c.dat := by
  cases c <;> (simp only [view, e]; rfl)
/-- a live object is frozen -/
theorem Rp.freezeAt (r : Rp K NM TB G H st) {i : Nat} {c : Cell} (e : st[i]? = some c) (l : lv c = true) :
    ∃ G', Ext G st G' (st.set i (.froz c.dat)) ∧ Rp K NM TB G' H (st.set i (.froz c.dat)) ∧ RepV K NM G'.F (.ref (G.ι i)) c.dat := by
  have rc := r.cells i c e
  obtain ⟨hv, hf⟩ := rc.live l
  obtain ⟨o, ho⟩ : ∃ o, H (G.ι i) = some o := by
    cases q : H (G.ι i) with
    | none => rw [q] at hv; exact hv.elim
    | some o => exact ⟨o, rfl⟩
  have rv : RepV K NM (G.put (G.ι i) o).F (.ref (G.ι i)) c.dat := by
    cases c with
    | lst ds => obtain ⟨xs, h1, h2, h3⟩ := rc; rw [h1] at ho; cases ho; exact .lst put_at (h3.mono (put_sub hf))
    | ins k fs => obtain ⟨dx, gs, h1, h2, h3⟩ := rc; rw [h1] at ho; cases ho; exact .ins put_at (RepF.mono (put_sub hf) h3)
    | dic kvs => obtain ⟨ks, h1, h2, h3⟩ := rc; rw [h1] at ho; cases ho; exact .dic put_at (RepK.mono (put_sub hf) h3)
    | froz d => cases l
  have nto : ∀ ps, o ≠ .tbl ps := fun ps z => by rw [ho, z] at hv; exact hv.elim
  refine ⟨G.put (G.ι i) o, ⟨put_sub hf, by simp, fun _ _ => rfl, rfl⟩, ⟨fun a u q => ?_, fun j d q => ?_, fun j k d d' q q' l l' z => ?_, r.tb, fun a u q => ?_, put_nt nto r.nt⟩, rv⟩
  · by_cases qa : a = G.ι i
    · have e' : upd G.F (G.ι i) o a = some u := q
      rw [qa, upd_same] at e'
      rw [qa, ho, e']
    · have e' : upd G.F (G.ι i) o a = some u := q
      rw [upd_ne qa] at e'
      exact r.sub a u e'
  · rcases set_get q with ⟨rfl, rfl, _⟩ | ⟨nj, q'⟩
    · exact rv
    · refine (r.cells j d q').mono (put_sub hf) fun l' => ?_
      show upd G.F (G.ι i) o (G.ι j) = none
      rw [upd_ne fun z => nj (r.inj j i d c q' e l' l z)]
      exact ((r.cells j d q').live l').2
  · rcases set_get q with ⟨rfl, rfl, _⟩ | ⟨nj, q1⟩
    · cases l
    · rcases set_get q' with ⟨rfl, rfl, _⟩ | ⟨nk, q2⟩
      · cases l'
      · exact r.inj j k d d' q1 q2 l l' z
  · obtain ⟨h1, h2, h3⟩ := r.priv a u q
    refine ⟨h1, ?_, fun j d q' l' => ?_⟩
    · show upd G.F (G.ι i) o a = none
      rw [upd_ne (Ne.symm (h3 i c e l))]
      exact h2
    · rcases set_get q' with ⟨rfl, rfl, _⟩ | ⟨nj, q1⟩
      · cases l'
      · exact h3 j d q1 l'
theorem lt_get {α : Type} {l : List α} {i : Nat} (h : i < l.length) : ∃ a, l[i]? = some a := ⟨l[i], List.getElem?_eq_getElem h⟩
/-- settled -/
theorem Rp.settleX (r : Rp K NM TB G H st) (x : RepX K NM G H st v d) : ∃ e st' G', settle d st = .ok e st' ∧ Ext G st G' st' ∧ Rp K NM TB G' H st' ∧ RepV K NM G'.F v e := by
  cases d with
  | obj i =>
    obtain ⟨hi, rfl⟩ := x
    obtain ⟨c, e⟩ := lt_get hi
    rw [settle_obj e]
    cases hc : lv c with
    | true =>
      obtain ⟨G', h1, h2, h3⟩ := r.freezeAt e hc
      cases c with
      | froz d => cases hc
      | _ => exact ⟨_, _, G', rfl, h1, h2, h3⟩
    | false =>
      cases c with
      | froz d => exact ⟨_, _, G, rfl, .refl, r, r.cells i _ e⟩
      | _ => cases hc
  | fl ds =>
    obtain ⟨G', h1, h2, h3⟩ := r.rawX (d := .fl ds) x
    exact ⟨_, _, G', rfl, h1, h2, h3⟩
  | fd ds =>
    obtain ⟨G', h1, h2, h3⟩ := r.rawX (d := .fd ds) x
    exact ⟨_, _, G', rfl, h1, h2, h3⟩
  | _ => exact ⟨_, _, G, rfl, .refl, r, x⟩
theorem app_get {α : Type} {l : List α} {i : Nat} {a b : α} (h : (l ++ [a])[i]? = some b) : (i = l.length ∧ b = a) ∨ (i < l.length ∧ l[i]? = some b) := by
  by_cases e : i < l.length
  · rw [List.getElem?_append_left e] at h
    exact .inr ⟨e, h⟩
  · rw [List.getElem?_append_right (Nat.le_of_not_lt e)] at h
    by_cases z : i = l.length
    · rw [z, Nat.sub_self] at h
      exact .inl ⟨z, (Option.some.inj h).symm⟩
    · have : 1 ≤ i - l.length := by omega
      rw [List.getElem?_eq_none (by simpa using this)] at h
      cases h
/-- a new live cell at p -/
theorem Rp.push (r : Rp K NM TB G H st) {p : Addr} {c : Cell} (rc : RepC K NM G.F H p c) (hb : G.B p = none) (ha : ∀ i c, st[i]? = some c → lv c = true → G.ι i ≠ p) :
    ∃ G', Ext G st G' (st ++ [c]) ∧ Rp K NM TB G' H (st ++ [c]) ∧ G'.ι st.length = p ∧ G'.F = G.F := by
  have hι : ∀ i, i < st.length → (fun i => if i = st.length then p else G.ι i) i = G.ι i := fun i h => if_neg (Nat.ne_of_lt h)
  have hp : (fun i => if i = st.length then p else G.ι i) st.length = p := if_pos rfl
  refine ⟨⟨G.F, fun i => if i = st.length then p else G.ι i, G.B⟩, ⟨fun _ _ h => h, by simp, hι, rfl⟩, ⟨r.sub, fun i d e => ?_, fun i j d d' e e' l l' z => ?_, r.tb, fun a u q => ?_, r.nt⟩, hp, rfl⟩
  · rcases app_get e with ⟨rfl, rfl⟩ | ⟨hi, e⟩
    · show RepC K NM G.F H ((fun i => if i = st.length then p else G.ι i) st.length) d
      rw [hp]
      exact rc
    · show RepC K NM G.F H ((fun i => if i = st.length then p else G.ι i) i) d
      rw [hι i hi]
      exact r.cells i d e
  · have z : (fun i => if i = st.length then p else G.ι i) i = (fun i => if i = st.length then p else G.ι i) j := z
    rcases app_get e with ⟨e1, e2⟩ | ⟨hi, e1⟩
    · rcases app_get e' with ⟨e3, e4⟩ | ⟨hj, e3⟩
      · rw [e1, e3]
      · rw [e1, hp, hι j hj] at z
        exact (ha j d' e3 l' z.symm).elim
    · rcases app_get e' with ⟨e3, e4⟩ | ⟨hj, e3⟩
      · rw [e3, hp, hι i hi] at z
        exact (ha i d e1 l z).elim
      · rw [hι i hi, hι j hj] at z
        exact r.inj i j d d' e1 e3 l l' z
  · obtain ⟨h1, h2, h3⟩ := r.priv a u q
    refine ⟨h1, h2, fun j d q' l' => ?_⟩
    show (fun i => if i = st.length then p else G.ι i) j ≠ a
    rcases app_get q' with ⟨rfl, rfl⟩ | ⟨hj, q1⟩
    · rw [hp]
      exact fun z => by rw [z] at hb; exact nomatch hb.symm.trans q
    · rw [hι j hj]
      exact h3 j d q1 l'
/-- made live -/
theorem Rp.liveX (r : Rp K NM TB G H st) (x : RepX K NM G H st v d) : ∃ e st' G', live d st = .ok e st' ∧ Ext G st G' st' ∧ Rp K NM TB G' H st' ∧ RepR K NM G' st'.length v e := by
  cases d with
  | fl ds =>
    obtain ⟨a, xs, rfl, h2, h3, h4, h5⟩ := x
    obtain ⟨G', h6, h7, h8, h9⟩ := r.push (p := a) (c := .lst ds) ⟨xs, h2, h3.1, h5⟩ h3.2 h4
    exact ⟨_, _, G', rfl, h6, h7, by simp, by rw [h8]⟩
  | fd ds =>
    obtain ⟨a, xs, rfl, h2, h3, h4, h5⟩ := x
    obtain ⟨G', h6, h7, h8, h9⟩ := r.push (p := a) (c := .dic ds) ⟨xs, h2, h3.1, h5⟩ h3.2 h4
    exact ⟨_, _, G', rfl, h6, h7, by simp, by rw [h8]⟩
  | _ => exact ⟨_, _, G, rfl, .refl, r, x⟩
/-- a live cell is written -/
theorem Rp.write (tp : TbP TB) (r : Rp K NM TB G H st) {i : Nat} {c c' : Cell} {o : HO} (e : st[i]? = some c) (l : lv c = true) (rc : RepC K NM G.F (upd H (G.ι i) o) (G.ι i) c') (l' : lv c' = true) :
    Ext G st G (st.set i c') ∧ Rp K NM TB G (upd H (G.ι i) o) (st.set i c') := by
  obtain ⟨hv, hf⟩ := (r.cells i c e).live l
  refine ⟨⟨fun _ _ h => h, by simp, fun _ _ => rfl, rfl⟩, ⟨fun a u q => ?_, fun j d q => ?_, fun j k d d' q q' m m' z => ?_, tp.wr _ _ _ r.tb hv, fun a u q => ?_, r.nt⟩⟩
  · have na : a ≠ G.ι i := fun z => by rw [z, hf] at q; cases q
    rw [upd_ne na]
    exact r.sub a u q
  · rcases set_get q with ⟨rfl, rfl, _⟩ | ⟨nj, q'⟩
    · exact rc
    · refine (r.cells j d q').heap fun m u z => ?_
      rw [upd_ne fun z => nj (r.inj j i d c q' e m l z)]
      exact z
  · have back : ∀ {j d}, (st.set i c')[j]? = some d → lv d = true → ∃ d0, st[j]? = some d0 ∧ lv d0 = true := fun {j d} q m => by
      rcases set_get q with ⟨rfl, rfl, _⟩ | ⟨_, q'⟩
      · exact ⟨c, e, l⟩
      · exact ⟨d, q', m⟩
    obtain ⟨d0, e0, m0⟩ := back q m
    obtain ⟨d1, e1, m1⟩ := back q' m'
    exact r.inj j k d0 d1 e0 e1 m0 m1 z
  · obtain ⟨h1, h2, h3⟩ := r.priv a u q
    refine ⟨?_, h2, fun j d q' m => ?_⟩
    · rw [upd_ne (Ne.symm (h3 i c e l))]
      exact h1
    · rcases set_get q' with ⟨rfl, rfl, _⟩ | ⟨_, q1⟩
      · exact h3 j c e l
      · exact h3 j d q1 m
/-- the store is cut at a length -/
theorem Rp.take (r : Rp K NM TB G H st) (n : Nat) : Rp K NM TB G H (st.take n) := by
  have sub : ∀ i c, (st.take n)[i]? = some c → st[i]? = some c := fun i c e => by
    rw [List.getElem?_take] at e
    split at e
    · exact e
    · cases e
  exact ⟨r.sub, fun i c e => r.cells i c (sub i c e), fun i j c d e e' => r.inj i j c d (sub i c e) (sub j d e'), r.tb, fun a u q => let ⟨h1, h2, h3⟩ := r.priv a u q; ⟨h1, h2, fun j d e => h3 j d (sub j d e)⟩, r.nt⟩
theorem Ext.take (x : Ext G st G' st') : Ext G st G' (st'.take st.length) := ⟨x.sub, by rw [List.length_take]; have := x.len; omega, x.ι, x.B⟩
/-- what stands behind a name's value -/
def RepW (G : Gw) (H : Hp) (v : V) (d : Dat) (K : PySem.W.Frag) (NM : Nm) : Prop := match d with
  | .lst ds => ∃ a xs, v = .ref a ∧ H a = some (.lst xs) ∧ RepVs K NM G.F xs ds
  | .dic kvs => ∃ a ks, v = .ref a ∧ H a = some (.dK ks) ∧ RepK K NM G.F ks kvs
  | .ins c fs => ∃ a dx gs, v = .ref a ∧ H a = some (.ins (NM.cls c) dx gs) ∧ RepF K NM G.F gs fs
  | .fl _ => False
  | .fd _ => False
  | .obj _ => False
  | d => RepV K NM G.F v d
theorem Rp.viewV (r : Rp K NM TB G H st) (x : RepV K NM G.F v d) : RepW G H v d K NM := by
  cases x with
  | lst e q => exact ⟨_, _, rfl, r.sub _ _ e, q⟩
  | dic e q => exact ⟨_, _, rfl, r.sub _ _ e, q⟩
  | ins e q => exact ⟨_, _, _, rfl, r.sub _ _ e, q⟩
  | non => exact .non
  | bl b => exact .bl b
  | int b => exact .int b
  | str b => exact .str b
  | tup e q => exact .tup e q
  | rol e => exact .rol e
theorem Rp.viewR (r : Rp K NM TB G H st) (x : RepR K NM G st.length v d) : RepW G H v (view st d) K NM := by
  cases d with
  | obj i =>
    obtain ⟨hi, rfl⟩ := x
    obtain ⟨c, e⟩ := lt_get hi
    rw [view_obj e]
    have rc := r.cells i c e
    cases c with
    | lst ds => obtain ⟨xs, h1, h2, h3⟩ := rc; exact ⟨_, _, rfl, h1, h3⟩
    | ins k fs => obtain ⟨dx, gs, h1, h2, h3⟩ := rc; exact ⟨_, _, _, rfl, h1, h3⟩
    | dic kvs => obtain ⟨ks, h1, h2, h3⟩ := rc; exact ⟨_, _, rfl, h1, h3⟩
    | froz d => exact r.viewV rc
  | fl _ => exact x.elim
  | fd _ => exact x.elim
  | _ => exact r.viewV x
end
end Z

set_option linter.all false
set_option maxRecDepth 100000
set_option maxHeartbeats 2000000
namespace Z
open PySem PySem.Spec PyProof.Rows
open L2 (V Hp HO Key VK XK TE TT TA TS TG WX Cx Inv Ends SqL SqT Same upd upd_same upd_ne ne_of ne_of_none OpR UnR CallR R2)
/-- .. of a settled value of a name -/
abbrev RW (K : PySem.W.Frag) (NM : Nm) (G : Gw) (H : Hp) (v : V) (d : Dat) : Prop := RepW G H v d K NM
theorem le_line {n : Nat} (h : big n = true) : n ≤ sizeLine := by
  rw [sizeLine_eq]
  exact Nat.le_of_ble_eq_true h
section
variable {X : Cx} {NM : Nm} {TB : Hp → Prop} {G : Gw} {H : Hp} {st : St}
/-- what a reckoned value is to the rest: a wish -/
def Give (K : PySem.W.Frag) (NM : Nm) (TB : Hp → Prop) (G : Gw) (st : St) (z : Dat) (Q : VK) : Prop := ∀ w H' G', Ext G st G' st → Rp K NM TB G' H' st → RepX K NM G' H' st w z → Q w H'
theorem Give.data {K : PySem.W.Frag} {Q : VK} {z : Dat} {w : V} (g : Give K NM TB G st z Q) (r : Rp K NM TB G H st) (x : RepV K NM G.F w z) : Q w H := g w H G .refl r x.toX
/-- a new tuple -/
theorem Give.newTup {K : PySem.W.Frag} {Q : VK} {ds : List Dat} {xs : List V} (tp : TbP TB) (g : Give K NM TB G st (.tup ds) Q) (r : Rp K NM TB G H st) (x : RepVs K NM G.F xs ds) {p : Addr} (hp : H p = none) : Q (.ref p) (upd H p (.tup xs)) := by
  obtain ⟨e, r'⟩ := r.lay tp (o := .tup xs) hp
  exact g _ _ _ e r' (show RepV K NM _ _ _ from .tup (SqT.of put_at) (x.mono e.sub))
/-- a new list -/
theorem Give.newLst {K : PySem.W.Frag} {Q : VK} {ds : List Dat} {xs : List V} (tp : TbP TB) (g : Give K NM TB G st (.fl ds) Q) (r : Rp K NM TB G H st) (x : RepVs K NM G.F xs ds) {p : Addr} (hp : H p = none) : Q (.ref p) (upd H p (.lst xs)) :=
  g _ _ G .refl (r.grow tp (same_upd hp)) ⟨p, xs, rfl, upd_same, ⟨r.fresh hp, r.freshB hp⟩, r.apart hp, x⟩
def rBin (K : PySem.W.Frag) (NM : Nm) (TB : Hp → Prop) (op : BOp) : R2 := fun v u H Q => ∃ x y G st z, RW K NM G H v x ∧ RW K NM G H u y ∧ Rp K NM TB G H st ∧ binop op x y = some z ∧ Give K NM TB G st z Q
def BOp.op : BOp → Operator
  | .add => .Add | .sub => .Sub | .mul => .Mult | .fdiv => .FloorDiv | .mod => .Mod | .pow => .Pow | .shl => .LShift | .shr => .RShift | .band => .BitAnd | .bor => .BitOr
theorem rw_int {K : PySem.W.Frag} {v : V} {i : Int} (x : RW K NM G H v (.int i)) : v = .int i := by
  have x' : RepV K NM G.F v (.int i) := x
  cases x'; rfl
theorem rw_bl {K : PySem.W.Frag} {v : V} {i : Bool} (x : RW K NM G H v (.bl i)) : v = .bl i := by
  have x' : RepV K NM G.F v (.bl i) := x
  cases x'; rfl
theorem rw_str {K : PySem.W.Frag} {v : V} {i : Str} (x : RW K NM G H v (.str i)) : v = .str i := by
  have x' : RepV K NM G.F v (.str i) := x
  cases x'; rfl
theorem rw_non {K : PySem.W.Frag} {v : V} (x : RW K NM G H v .non) : v = .non := by
  have x' : RepV K NM G.F v .non := x
  cases x'; rfl
theorem rw_tup {K : PySem.W.Frag} {v : V} {ds : List Dat} (x : RW K NM G H v (.tup ds)) : ∃ a xs, v = .ref a ∧ SqT K G.F a xs ∧ RepVs K NM G.F xs ds := by
  have x' : RepV K NM G.F v (.tup ds) := x
  cases x' with
  | tup h r => exact ⟨_, _, rfl, h, r⟩
theorem rw_rol {K : PySem.W.Frag} {v : V} {ns : List Int} (x : RW K NM G H v (.rol ns)) : ∃ a, v = .ref a ∧ SqL K G.F a (ns.map V.int) := by
  have x' : RepV K NM G.F v (.rol ns) := x
  cases x' with
  | rol h => exact ⟨_, rfl, h⟩
theorem op_bin (tp : TbP TB) (op : BOp) : OpR X (binaryOp op.op) (rBin X.K NM TB op) := by
  intro pins s σ H v u v' u' Q I rv ru h
  obtain ⟨x, y, G, st, z, hx, hy, r, hb, g⟩ := h
  have D : ∀ {w : V}, RepV X.K NM G.F w z → Q w H := fun q => g.data r q
  unfold binop at hb
  split at hb
  · cases hb
    rw [rw_int hx] at rv; rw [rw_int hy] at ru
    exact L2.op_add pins s σ H _ _ v' u' Q I rv ru ⟨_, _, rfl, rfl, D (.int _)⟩
  · split at hb
    · rename_i hz
      cases hb
      rw [rw_str hx] at rv; rw [rw_str hy] at ru
      exact L2.op_add_str pins s σ H _ _ v' u' Q I rv ru ⟨_, _, rfl, rfl, le_line hz, D (.str _)⟩
    · cases hb
  · split at hb
    · rename_i hz
      cases hb
      obtain ⟨a, xs, rfl, h1, h2⟩ := hx
      obtain ⟨b, ys, rfl, h3, h4⟩ := hy
      exact L2.op_cat pins s σ H _ _ v' u' Q I rv ru ⟨a, b, xs, ys, rfl, rfl, h1, h3, by rw [h2.length, h4.length]; exact le_line hz, fun p hp => g.newLst tp r (h2.append h4) hp⟩
    · cases hb
  · split at hb
    · rename_i hz
      cases hb
      obtain ⟨a, xs, rfl, h1, h2⟩ := rw_tup hx
      obtain ⟨b, ys, rfl, h3, h4⟩ := rw_tup hy
      have h1' := SqT_mono r.sub h1
      have h3' := SqT_mono r.sub h3
      refine L2.op_catA pins s σ H _ _ v' u' Q I rv ru ⟨a, b, xs, ys, rfl, rfl, h1', h3', by rw [h2.length, h4.length]; exact le_line hz, ?_⟩
      refine ⟨fun e => D ?_, fun e e' => D ?_, fun e e' p hp => g.newTup tp r (h2.append h4) hp⟩
      · subst e
        cases h2
        exact .tup h3 h4
      · subst e'
        cases h4
        have q := RepV.tup (NM := NM) h1 h2
        simpa using q
    · cases hb
  · cases hb
    rw [rw_int hx] at rv; rw [rw_int hy] at ru
    exact L2.op_sub pins s σ H _ _ v' u' Q I rv ru ⟨_, _, rfl, rfl, D (.int _)⟩
  · split at hb
    · rename_i hz
      cases hb
      rw [rw_int hx] at rv; rw [rw_int hy] at ru
      have hz' := of_decide_eq_true hz
      exact L2.op_mul pins s σ H _ _ v' u' Q I rv ru ⟨_, _, rfl, rfl, hz', D (.int _)⟩
    · cases hb
  · split at hb
    · rename_i hz
      cases hb
      obtain ⟨hz1, hz2⟩ := Bool.and_eq_true_iff.mp hz
      obtain ⟨a, xs, rfl, h1, h2⟩ := hx
      rw [rw_int hy] at ru
      have hz3 := of_decide_eq_true hz1
      exact L2.op_rep pins s σ H _ _ v' u' Q I rv ru ⟨a, _, xs, rfl, rfl, h1, hz3.1, hz3.2, by rw [h2.length]; exact le_line hz2, fun p hp => g.newLst tp r (h2.flatten _) hp⟩
    · cases hb
  · split at hb
    · rename_i hz
      cases hb
      rw [rw_int hx] at rv; rw [rw_int hy] at ru
      have hz' := of_decide_eq_true hz
      exact L2.op_fdiv pins s σ H _ _ v' u' Q I rv ru ⟨_, _, rfl, rfl, hz', D (.int _)⟩
    · cases hb
  · split at hb
    · rename_i hz
      cases hb
      rw [rw_int hx] at rv; rw [rw_int hy] at ru
      have hz' := of_decide_eq_true hz
      exact L2.op_mod pins s σ H _ _ v' u' Q I rv ru ⟨_, _, rfl, rfl, hz', D (.int _)⟩
    · cases hb
  · split at hb
    · rename_i hz
      cases hb
      rw [rw_int hx] at rv; rw [rw_int hy] at ru
      have hz' := of_decide_eq_true hz
      exact L2.op_pow pins s σ H _ _ v' u' Q I rv ru ⟨_, _, rfl, rfl, hz', D (.int _)⟩
    · cases hb
  · split at hb
    · rename_i hz
      cases hb
      rw [rw_int hx] at rv; rw [rw_int hy] at ru
      have hz' := of_decide_eq_true hz
      exact L2.op_shl pins s σ H _ _ v' u' Q I rv ru ⟨_, _, rfl, rfl, hz', D (.int _)⟩
    · cases hb
  · split at hb
    · rename_i hz
      cases hb
      rw [rw_int hx] at rv; rw [rw_int hy] at ru
      have hz' := of_decide_eq_true hz
      exact L2.op_shr pins s σ H _ _ v' u' Q I rv ru ⟨_, _, rfl, rfl, hz', D (.int _)⟩
    · cases hb
  · cases hb
    rw [rw_int hx] at rv; rw [rw_int hy] at ru
    exact L2.op_and pins s σ H _ _ v' u' Q I rv ru ⟨_, _, rfl, rfl, D (.int _)⟩
  · cases hb
    rw [rw_int hx] at rv; rw [rw_int hy] at ru
    exact L2.op_or pins s σ H _ _ v' u' Q I rv ru ⟨_, _, rfl, rfl, D (.int _)⟩
  · cases hb
end
end Z

set_option linter.all false
set_option maxRecDepth 100000
set_option maxHeartbeats 2000000
namespace Z
open PySem PySem.Spec PyProof.Rows
open L2 (V Hp HO Key VK XK TE TT TA TS TG WX Cx Inv Ends SqL SqT Same upd upd_same upd_ne ne_of ne_of_none OpR UnR CallR R2 Dp DpAll)
section
variable {K : PySem.W.Frag} {NM : Nm} {F H : Hp}
mutual
theorem RepV.dp (h : ∀ a o, F a = some o → H a = some o) : ∀ {v : V} {d : Dat} {p : PyData}, RepV K NM F v d → toPy d = some p → Dp K H v p
  | _, _, _, .non, e => by cases e; exact .non
  | _, _, _, .bl b, e => by cases e; exact .bl b
  | _, _, _, .int i, e => by cases e; exact .int i
  | _, _, _, .str x, e => by cases e; exact .str x
  | _, _, _, .lst (ds := ds) q r, e => by
    have e' : (toPys ds).map PyData.list = some _ := e
    cases z : toPys ds with
    | none => rw [z] at e'; cases e'
    | some ps =>
      rw [z] at e'
      cases e'
      exact .lst (SqL.of (h _ _ q)) (RepVs.dp h r z)
  | _, _, _, .tup (ds := ds) q r, e => by
    have e' : (toPys ds).map PyData.tuple = some _ := e
    cases z : toPys ds with
    | none => rw [z] at e'; cases e'
    | some ps =>
      rw [z] at e'
      cases e'
      exact .tup (SqT_mono h q) (RepVs.dp h r z)
  | _, _, _, .rol _, e => by cases e
  | _, _, _, .dic _ _, e => by cases e
  | _, _, _, .ins _ _, e => by cases e
theorem RepVs.dp (h : ∀ a o, F a = some o → H a = some o) : ∀ {vs : List V} {ds : List Dat} {ps : List PyData}, RepVs K NM F vs ds → toPys ds = some ps → DpAll K H vs ps
  | _, _, _, .nil, e => by cases e; exact .nil
  | _, _, _, .cons (d := d) (ds := ds) r t, e => by
    unfold toPys at e
    cases z : toPy d with
    | none => rw [z] at e; cases e
    | some p =>
      cases y : toPys ds with
      | none => rw [z, y] at e; cases e
      | some ps =>
        rw [z, y] at e
        cases e
        exact .cons (RepV.dp h r z) (RepVs.dp h t y)
end
theorem rw_dp {G : Gw} {v : V} {d : Dat} {p : PyData} (h : ∀ a o, G.F a = some o → H a = some o) (x : RW K NM G H v d) (e : toPy d = some p) : Dp K H v p := by
  cases d with
  | lst ds =>
    obtain ⟨a, xs, rfl, q, r⟩ := x
    have e' : (toPys ds).map PyData.list = some _ := e
    cases z : toPys ds with
    | none => rw [z] at e'; cases e'
    | some ps =>
      rw [z] at e'
      cases e'
      exact .lst (SqL.of q) (r.dp h z)
  | dic _ => cases e
  | ins _ _ => cases e
  | obj _ => exact x.elim
  | fl _ => exact x.elim
  | fd _ => exact x.elim
  | _ => exact RepV.dp h x e
theorem shapedO_some {o : Option PyData} {p : PyData} (h : shapedO o = some p) : o = some p ∧ SeqAt.shaped p = true := by
  cases o with
  | none => cases h
  | some q =>
    have h : (if SeqAt.shaped q = true then some q else none) = some p := h
    by_cases e : SeqAt.shaped q = true
    · rw [if_pos e] at h
      cases h
      exact ⟨rfl, e⟩
    · rw [if_neg e] at h
      cases h
theorem eqD_some {a b : Dat} {k : Bool} (h : eqD a b = some k) : ∃ p q, toPy a = some p ∧ toPy b = some q ∧ SeqAt.shaped p = true ∧ SeqAt.shaped q = true ∧ k = PyData.eqv p q := by
  unfold eqD at h
  split at h
  · rename_i p q e1 e2
    cases h
    obtain ⟨h1, h2⟩ := shapedO_some e1
    obtain ⟨h3, h4⟩ := shapedO_some e2
    exact ⟨p, q, h1, h3, h2, h4, rfl⟩
  · cases h
end
section
variable {X : Cx} {NM : Nm} {TB : Hp → Prop} {G : Gw} {H : Hp} {st : St}
def COp.op : COp → CmpOp
  | .eq => .Eq | .ne => .NotEq | .lt => .Lt | .le => .LtE | .gt => .Gt | .ge => .GtE | .is_ => .Is | .isnt => .IsNot | .in_ => .In | .nin => .NotIn
def rCmp (K : PySem.W.Frag) (NM : Nm) (TB : Hp → Prop) (op : COp) : R2 := fun v u H Q => ∃ x y G st k, RW K NM G H v x ∧ RW K NM G H u y ∧ Rp K NM TB G H st ∧ cmpop op x y = some k ∧ Q (.bl k) H
theorem RepK.any {K : PySem.W.Frag} {F : Hp} {k : Key} : ∀ {ks : List (Key × V)} {kvs : List (Key × Dat)}, RepK K NM F ks kvs → (L2.valV ks k).isSome = kvs.any fun kv => decide (kv.1 = k) := by
  intro ks kvs r
  rw [← L2.valV_any]
  induction kvs generalizing ks with
  | nil => cases r; rfl
  | cons p t ih =>
    cases r with
    | cons a b => simp only [List.any_cons, ih b]
theorem view_D {d : Dat} : True := trivial
theorem op_inX (hu : X.A.units + 65 < cLine) (neg : Bool) {pins : List (Addr × Obj)} {s : Shared} {σ : L2.St} {v u : V} {v' u' : Value} {Q : VK} (I : Inv X pins σ H s) (rv : L2.RelV v v') (ru : L2.RelV u u') {x y : Dat} {k : Bool}
    (hx : RW X.K NM G H v x) (hy : RW X.K NM G H u y) (r : Rp X.K NM TB G H st) (hk : inD x y = some k) (q : Q (.bl (if neg then !k else k)) H) :
    wpAny (model X.prog X.w) X.A (compareOp (if neg then .NotIn else .In) v' u') (L2.EP X pins σ Q) X.xe s := by
  cases y with
  | lst xs =>
    have hk : (match shapedO (toPy x), toPys xs with
      | some p, some qs => if SeqAt.shaped (.list qs) = true then some (qs.any fun z => PyData.eqv z p) else none
      | _, _ => none) = some k := hk
    cases e1 : shapedO (toPy x) with
    | none => rw [e1] at hk; cases hk
    | some p =>
      cases e2 : toPys xs with
      | none => rw [e1, e2] at hk; cases hk
      | some qs =>
        rw [e1, e2] at hk
        have hk : (if SeqAt.shaped (.list qs) = true then some (qs.any fun z => PyData.eqv z p) else none) = some k := hk
        by_cases hs : SeqAt.shaped (.list qs) = true
        · rw [if_pos hs] at hk
          cases hk
          obtain ⟨h1, h2⟩ := shapedO_some e1
          have dx := rw_dp r.sub hx h1
          have dy : Dp X.K H u (.list qs) := rw_dp r.sub hy (show (toPys xs).map PyData.list = some _ by rw [e2]; rfl)
          cases neg with
          | false => exact L2.op_inD hu pins s σ H v u v' u' Q I rv ru ⟨p, qs, dx, dy, h2, hs, q⟩
          | true => exact L2.op_notInD hu pins s σ H v u v' u' Q I rv ru ⟨p, qs, dx, dy, h2, hs, q⟩
        · rw [if_neg hs] at hk
          cases hk
  | tup xs =>
    have hk : (match shapedO (toPy x), toPys xs with
      | some p, some qs => if SeqAt.shaped (.list qs) = true then some (qs.any fun z => PyData.eqv z p) else none
      | _, _ => none) = some k := hk
    cases e1 : shapedO (toPy x) with
    | none => rw [e1] at hk; cases hk
    | some p =>
      cases e2 : toPys xs with
      | none => rw [e1, e2] at hk; cases hk
      | some qs =>
        rw [e1, e2] at hk
        have hk : (if SeqAt.shaped (.list qs) = true then some (qs.any fun z => PyData.eqv z p) else none) = some k := hk
        by_cases hs : SeqAt.shaped (.list qs) = true
        · rw [if_pos hs] at hk
          cases hk
          obtain ⟨h1, h2⟩ := shapedO_some e1
          have dx := rw_dp r.sub hx h1
          have dy : Dp X.K H u (.tuple qs) := rw_dp r.sub hy (show (toPys xs).map PyData.tuple = some _ by rw [e2]; rfl)
          obtain ⟨as, r1⟩ := Dp.reads I p v v' dx rv
          obtain ⟨bs, r2⟩ := Dp.reads I (.tuple qs) u u' dy ru
          cases neg with
          | false => exact SeqAt.in_tuple_reads r2 r1 (SeqAt.canLay_of_shaped hs) (SeqAt.canLay_of_shaped h2) (room_in_shaped h2 hu) ⟨.bl _, H, I, rfl, q⟩
          | true => exact SeqAt.notIn_tuple_reads r2 r1 (SeqAt.canLay_of_shaped hs) (SeqAt.canLay_of_shaped h2) (room_in_shaped h2 hu) ⟨.bl _, H, I, rfl, q⟩
        · rw [if_neg hs] at hk
          cases hk
  | dic kvs =>
    obtain ⟨a, ks, rfl, h1, h2⟩ := hy
    have hu1 : X.A.units + 1 < cLine := by omega
    obtain rfl : u' = Value.ref a := ru
    cases x with
    | int i =>
      cases hk
      have ev := rw_int hx
      subst ev
      rw [← h2.any (k := Sum.inl i)] at q
      cases neg with
      | false => exact L2.d_in hu1 I (L2.DGet.k (k := Sum.inl i) h1) rv fun s' I' => ⟨.bl _, H, I', rfl, q⟩
      | true => exact L2.d_notIn hu1 I (L2.DGet.k (k := Sum.inl i) h1) rv fun s' I' => ⟨.bl _, H, I', rfl, q⟩
    | str i =>
      cases hk
      have ev := rw_str hx
      subst ev
      rw [← h2.any (k := Sum.inr i)] at q
      cases neg with
      | false => exact L2.d_in hu1 I (L2.DGet.k (k := Sum.inr i) h1) rv fun s' I' => ⟨.bl _, H, I', rfl, q⟩
      | true => exact L2.d_notIn hu1 I (L2.DGet.k (k := Sum.inr i) h1) rv fun s' I' => ⟨.bl _, H, I', rfl, q⟩
    | _ => cases hk
  | str y =>
    cases x with
    | str x =>
      have hk : (if decide (x.length = 1) = true then some (decide (x.cps.getD 0 0 ∈ y.cps.toList)) else none) = some k := hk
      by_cases hz : decide (x.length = 1) = true
      · rw [if_pos hz] at hk
        cases hk
        have h1 := of_decide_eq_true hz
        have ev := rw_str hx
        have eu := rw_str hy
        obtain ⟨c, hc⟩ : ∃ c, x = ⟨#[c]⟩ := by
          obtain ⟨⟨l⟩⟩ := x
          match l, h1 with
          | [c], _ => exact ⟨c, rfl⟩
        subst hc
        cases neg with
        | false => exact L2.op_in_sign pins s σ H v u v' u' Q I rv ru ⟨c, _, ev, eu, q⟩
        | true => exact L2.op_notIn_sign pins s σ H v u v' u' Q I rv ru ⟨c, _, ev, eu, q⟩
      · rw [if_neg hz] at hk
        cases hk
    | _ => cases hk
  | _ => cases hk
theorem op_cmp (hu : X.A.units + 65 < cLine) (op : COp) : OpR X (compareOp op.op) (rCmp X.K NM TB op) := by
  intro pins s σ H v u v' u' Q I rv ru h
  obtain ⟨x, y, G, st, k, hx, hy, r, hb, q⟩ := h
  have hu2 : X.A.units + 64 < cLine := by omega
  unfold cmpop at hb
  split at hb
  · obtain ⟨p, p', h1, h2, h3, h4, rfl⟩ := eqD_some hb
    exact L2.op_eqD hu2 pins s σ H _ _ v' u' Q I rv ru ⟨p, p', rw_dp r.sub hx h1, rw_dp r.sub hy h2, h3, h4, q⟩
  · cases z : eqD x y with
    | none => rw [z] at hb; cases hb
    | some k' =>
      rw [z] at hb
      cases hb
      obtain ⟨p, p', h1, h2, h3, h4, rfl⟩ := eqD_some z
      exact L2.op_neD hu2 pins s σ H _ _ v' u' Q I rv ru ⟨p, p', rw_dp r.sub hx h1, rw_dp r.sub hy h2, h3, h4, q⟩
  · exact op_inX hu false I rv ru hx hy r hb q
  · cases z : inD x y with
    | none => rw [z] at hb; cases hb
    | some k' =>
      rw [z] at hb
      cases hb
      exact op_inX hu true I rv ru hx hy r z q
  · cases hb
    refine L2.op_isN pins s σ H _ _ v' u' Q I rv ru ⟨rw_non hy, ?_⟩
    have e : decide (v = .non) = isNonD x := by
      cases x with
      | lst _ => obtain ⟨_, _, rfl, _⟩ := hx; rfl
      | dic _ => obtain ⟨_, _, rfl, _⟩ := hx; rfl
      | ins _ _ => obtain ⟨_, _, _, rfl, _⟩ := hx; rfl
      | obj _ => exact hx.elim
      | fl _ => exact hx.elim
      | fd _ => exact hx.elim
      | non => rw [rw_non hx]; rfl
      | bl _ => rw [rw_bl hx]; rfl
      | int _ => rw [rw_int hx]; rfl
      | str _ => rw [rw_str hx]; rfl
      | tup _ => obtain ⟨_, _, rfl, _⟩ := rw_tup hx; rfl
      | rol _ => obtain ⟨_, rfl, _⟩ := rw_rol hx; rfl
    rw [e]
    exact q
  · cases hb
    refine L2.op_notN pins s σ H _ _ v' u' Q I rv ru ⟨rw_non hy, ?_⟩
    have e : decide (v = .non) = isNonD x := by
      cases x with
      | lst _ => obtain ⟨_, _, rfl, _⟩ := hx; rfl
      | dic _ => obtain ⟨_, _, rfl, _⟩ := hx; rfl
      | ins _ _ => obtain ⟨_, _, _, rfl, _⟩ := hx; rfl
      | obj _ => exact hx.elim
      | fl _ => exact hx.elim
      | fd _ => exact hx.elim
      | non => rw [rw_non hx]; rfl
      | bl _ => rw [rw_bl hx]; rfl
      | int _ => rw [rw_int hx]; rfl
      | str _ => rw [rw_str hx]; rfl
      | tup _ => obtain ⟨_, _, rfl, _⟩ := rw_tup hx; rfl
      | rol _ => obtain ⟨_, rfl, _⟩ := rw_rol hx; rfl
    rw [e]
    exact q
  · cases hb
    refine L2.op_isBl pins s σ H _ _ v' u' Q I rv ru ⟨_, _, rw_bl hx, rw_bl hy, ?_⟩
    rw [← Bool.beq_eq_decide_eq]; exact q
  · cases hb
    refine L2.op_notBl pins s σ H _ _ v' u' Q I rv ru ⟨_, _, rw_bl hx, rw_bl hy, ?_⟩
    rw [← Bool.beq_eq_decide_eq]; exact q
  · cases hb
    exact L2.op_lt pins s σ H _ _ v' u' Q I rv ru ⟨_, _, rw_int hx, rw_int hy, q⟩
  · cases hb
    exact L2.op_le pins s σ H _ _ v' u' Q I rv ru ⟨_, _, rw_int hx, rw_int hy, q⟩
  · cases hb
    exact L2.op_gt pins s σ H _ _ v' u' Q I rv ru ⟨_, _, rw_int hx, rw_int hy, q⟩
  · cases hb
    exact L2.op_ge pins s σ H _ _ v' u' Q I rv ru ⟨_, _, rw_int hx, rw_int hy, q⟩
  · cases hb
/-- truth -/
theorem rw_truth (r : Rp X.K NM TB G H st) {v : V} {d : Dat} {k : Bool} (x : RW X.K NM G H v d) (h : truth d = some k) : L2.TruV X.K v H k := by
  cases d with
  | non => cases h; rw [rw_non x]; rfl
  | bl b => cases h; rw [rw_bl x]; rfl
  | int i => cases h; rw [rw_int x]; rfl
  | str z =>
    rw [rw_str x]
    have h' : (if big z.length then some (z.length != 0) else none) = some k := h
    split at h'
    · rename_i hz
      cases h'
      refine ⟨le_line hz, ?_⟩
      cases q : z.length with
      | zero => rfl
      | succ n =>
        have : (((n + 1 : Nat) : Int) != 0) = true := by simp; omega
        rw [this]; rfl
    · cases h'
  | lst ds =>
    cases h
    obtain ⟨a, xs, rfl, h1, h2⟩ := x
    refine .inl ⟨xs, SqL.of h1, ?_⟩
    cases h2 <;> rfl
  | tup ds =>
    cases h
    obtain ⟨a, xs, rfl, h1, h2⟩ := rw_tup x
    refine .inr (.inl ⟨xs, SqT_mono r.sub h1, ?_⟩)
    cases h2 <;> rfl
  | dic kvs =>
    cases h
    obtain ⟨a, ks, rfl, h1, h2⟩ := x
    refine .inr (.inr ⟨ks, h1, ?_⟩)
    cases h2 <;> rfl
  | _ => cases h
end
end Z

set_option linter.all false
set_option maxRecDepth 100000
set_option maxHeartbeats 2000000
namespace Z
open PySem PySem.Spec PyProof.Rows
open L2 (V Hp HO Key VK XK TE TT TA TS TG WX Cx Inv Ends SqL SqT Same upd upd_same upd_ne ne_of ne_of_none OpR UnR CallR R2 Dp DpAll IxR SlR)
section
variable {X : Cx} {NM : Nm} {TB : Hp → Prop} {G : Gw} {H : Hp} {st : St}
theorem atI_rep {K : PySem.W.Frag} {F : Hp} {xs : List V} {ds : List Dat} {i : Int} {d : Dat} (r : RepVs K NM F xs ds) (h : L2.atI ds i = some d) : ∃ v, L2.atI xs i = some v ∧ RepV K NM F v d := by
  unfold L2.atI at h ⊢
  rw [← r.length] at h
  cases e : L2.ixN xs.length i with
  | none => rw [e] at h; cases h
  | some j =>
    rw [e] at h
    exact r.get' (i := j) h
def rIxZ (K : PySem.W.Frag) (NM : Nm) (TB : Hp → Prop) : R2 := fun v u H Q => ∃ x y G st z, RW K NM G H v x ∧ RepR K NM G st.length u y ∧ Rp K NM TB G H st ∧ ixD x y = some z ∧ Give K NM TB G st z Q
theorem rr_int {K : PySem.W.Frag} {n : Nat} {v : V} {i : Int} (x : RepR K NM G n v (.int i)) : v = .int i := by
  have x' : RepV K NM G.F v (.int i) := x
  cases x'; rfl
theorem ix_ok : IxR X (rIxZ X.K NM TB) := by
  intro value slice pins s σ H v u v' u' Q I rv ru h hsl
  obtain ⟨x, y, G, st, z, hx, hy, r, hb, g⟩ := h
  have D : ∀ {w : V}, RepV X.K NM G.F w z → Q w H := fun q => g.data r q
  cases y with
  | int i =>
    have eu := rr_int hy
    subst eu
    cases x with
    | lst ds =>
      obtain ⟨a, xs, rfl, h1, h2⟩ := hx
      obtain ⟨w, hw, rw'⟩ := atI_rep h2 hb
      exact L2.ix_list value slice pins s σ H _ _ v' u' Q I rv ru ⟨a, xs, i, w, rfl, rfl, SqL.of h1, hw, D rw'⟩ hsl
    | tup ds =>
      obtain ⟨a, xs, rfl, h1, h2⟩ := rw_tup hx
      obtain ⟨w, hw, rw'⟩ := atI_rep h2 hb
      exact L2.ix_tup value slice pins s σ H _ _ v' u' Q I rv ru ⟨a, xs, i, w, rfl, rfl, SqT_mono r.sub h1, hw, D rw'⟩ hsl
    | str t =>
      rw [rw_str hx] at rv
      have hb : (if big t.length = true then (L2.atI t.cps.toList i).map (fun c => Dat.str ⟨#[c]⟩) else none) = some z := hb
      by_cases hz : big t.length = true
      · rw [if_pos hz] at hb
        cases e : L2.atI t.cps.toList i with
        | none => rw [e] at hb; cases hb
        | some c =>
          rw [e] at hb
          cases hb
          exact L2.ix_str value slice pins s σ H _ _ v' u' Q I rv ru ⟨t, i, c, rfl, rfl, le_line hz, e, D (.str _)⟩ hsl
      · rw [if_neg hz] at hb
        cases hb
    | _ => cases hb
  | _ => cases x <;> cases hb
theorem cut_rep {K : PySem.W.Frag} {F : Hp} {xs : List V} {ds : List Dat} (r : RepVs K NM F xs ds) (lo hi : Option Int) : RepVs K NM F (L2.cutV xs lo hi) (cut ds lo hi) := by
  unfold L2.cutV cut
  rw [r.length]
  exact (r.drop _).take _
theorem cut_full {α : Type} {xs : List α} {lo hi : Option Int} (h : HT.sIx xs.length 0 lo = 0 ∧ HT.sIx xs.length xs.length hi = xs.length) : cut xs lo hi = xs := by
  unfold cut
  rw [h.1, h.2, List.drop_zero, Nat.sub_zero, List.take_length]
theorem cut_map {α β : Type} (f : α → β) (xs : List α) (lo hi : Option Int) : cut (xs.map f) lo hi = (cut xs lo hi).map f := by
  unfold cut
  rw [List.length_map, ← List.map_drop, ← List.map_take]
def rSlZ (K : PySem.W.Frag) (NM : Nm) (TB : Hp → Prop) : V → Option Int → Option Int → Hp → VK → Prop := fun v lo hi H Q => ∃ x G st z, RW K NM G H v x ∧ Rp K NM TB G H st ∧ slD x lo hi = some z ∧ Give K NM TB G st z Q
theorem sl_ok (tp : TbP TB) : SlR X (rSlZ X.K NM TB) := by
  intro pins s σ H v v' vl vu lo hi sl Q I rv hs pl pu h
  obtain ⟨x, G, st, z, hx, r, hb, g⟩ := h
  have D : ∀ {w : V}, RepV X.K NM G.F w z → Q w H := fun q => g.data r q
  cases x with
  | lst ds =>
    cases hb
    obtain ⟨a, xs, rfl, h1, h2⟩ := hx
    exact L2.sl_list pins s σ H _ v' vl vu lo hi sl Q I rv hs pl pu ⟨a, xs, rfl, SqL.of h1, fun p hp => g.newLst tp r (cut_rep h2 lo hi) hp⟩
  | rol ns =>
    cases hb
    obtain ⟨a, rfl, h1⟩ := rw_rol hx
    refine L2.sl_list pins s σ H _ v' vl vu lo hi sl Q I rv hs pl pu ⟨a, _, rfl, SqL_mono r.sub h1, fun p hp => g.newLst tp r ?_ hp⟩
    have q := cut_rep (RepVs.ints (K := X.K) (NM := NM) (F := G.F) ns) lo hi
    rw [cut_map] at q
    exact q
  | tup ds =>
    cases hb
    obtain ⟨a, xs, rfl, h1, h2⟩ := rw_tup hx
    refine L2.sl_tupA pins s σ H _ v' vl vu lo hi sl Q I rv hs pl pu ⟨a, xs, rfl, SqT_mono r.sub h1, fun e => D ?_, fun e p hp => g.newTup tp r (cut_rep h2 lo hi) hp⟩
    rw [h2.length] at e
    rw [cut_full e]
    exact .tup h1 h2
  | str t =>
    rw [rw_str hx] at rv
    have hb : (if big t.length = true then some (Dat.str ⟨(cut t.cps.toList lo hi).toArray⟩) else none) = some z := hb
    by_cases hz : big t.length = true
    · rw [if_pos hz] at hb
      cases hb
      refine L2.sl_str pins s σ H _ v' vl vu lo hi sl Q I rv hs pl pu ⟨t, rfl, le_line hz, D ?_⟩
      have e : L2.cutS t lo hi = ⟨(cut t.cps.toList lo hi).toArray⟩ := by
        unfold L2.cutS cut
        rw [show t.cps.toList.length = t.length from by simp [Str.length]]
      rw [e]
      exact .str _
    · rw [if_neg hz] at hb
      cases hb
  | _ => cases hb
end
end Z

set_option linter.all false
set_option maxRecDepth 100000
set_option maxHeartbeats 2000000
namespace Z
open PySem PySem.Spec PyProof.Rows
open L2 (V Hp HO Key VK XK TE TT TA TS TG TGs TO TI WX Cx Inv Ends SqL SqT Same upd upd_same upd_ne ne_of ne_of_none OpR UnR CallR R2 Dp DpAll IxR SlR PE PT PW PA PS PSs PG PGs PI PO PTs)
theorem Res.wp_bnd {α β : Type} {r : Res α} {f : α → St → Res β} {K E} : (r.bnd f).wp K E ↔ r.wp (fun a s => (f a s).wp K E) E := by
  cases r <;> exact Iff.rfl
theorem PE.imp {X : Cx} {e : Expr} {t t' : TE} (h : PE X e t) (i : ∀ σ H Q, t' σ H Q → t σ H Q) : PE X e t' := ⟨fun pins s σ H Q I q => h.run pins s σ H Q I (i σ H Q q)⟩
theorem PT.imp {X : Cx} {e : Expr} {t t' : TT} (h : PT X e t) (i : ∀ σ H Q, t' σ H Q → t σ H Q) : PT X e t' := ⟨fun pins s σ H Q I q => h.run pins s σ H Q I (i σ H Q q)⟩
theorem PW.imp {X : Cx} {e : Expr} {t t' : TT} (h : PW X e t) (i : ∀ σ H Q, t' σ H Q → t σ H Q) : PW X e t' := ⟨fun wh pins s σ H Q I q => h.run wh pins s σ H Q I (i σ H Q q)⟩
theorem PA.imp {X : Cx} {es : List Expr} {t t' : TA} (h : PA X es t) (i : ∀ σ H Q, t' σ H Q → t σ H Q) : PA X es t' := ⟨fun pos pins s σ H Q I q => h.run pos pins s σ H Q I (i σ H Q q)⟩
theorem PO.imp {X : Cx} {e : Option Expr} {t t' : TO} (h : PO X e t) (i : ∀ σ H Q, t' σ H Q → t σ H Q) : PO X e t' := ⟨fun pins s σ H Q I q => h.run pins s σ H Q I (i σ H Q q)⟩
theorem PI.imp {X : Cx} {tg e : Expr} {t t' : TI} (h : PI X tg e t) (i : ∀ σ H Q, t' σ H Q → t σ H Q) : PI X tg e t' := ⟨fun pins s σ H Q I q => h.run pins s σ H Q I (i σ H Q q)⟩
theorem PS.imp {X : Cx} {e : Stmt} {t t' : TS} (h : PS X e t) (i : ∀ D σ H, t' D σ H → t D σ H) : PS X e t' := ⟨fun pins s σ H D I q => h.run pins s σ H D I (i D σ H q)⟩
theorem PSs.imp {X : Cx} {e : List Stmt} {t t' : TS} (h : PSs X e t) (i : ∀ D σ H, t' D σ H → t D σ H) : PSs X e t' := ⟨fun pins s σ H D I q => h.run pins s σ H D I (i D σ H q)⟩
section
variable (K : PySem.W.Frag) (NM : Nm) (TB : Hp → Prop)
/-- an error's wish, from (G, st) on -/
def EX (G : Gw) (st : St) (σ : L2.St) (W : WX) : Nat → List (Nat × Dat) → St → Prop := fun c fs st' =>
  ∀ (dd : Addr) (H' : Hp) (G' : Gw) (gs : List (Str × V)), Ext G st G' st' → Rp K NM TB G' H' st' → H' dd = some (.xd gs) → RepF K NM G'.F gs fs → W (.ref (NM.cls c)) (some dd) σ H'
/-- a value's wish -/
def KX (G : Gw) (st : St) (Q : VK) : Dat → St → Prop := fun d st' => ∀ (v : V) (H' : Hp) (G' : Gw), Ext G st G' st' → Rp K NM TB G' H' st' → RepX K NM G' H' st' v d → Q v H'
def KR (G : Gw) (st : St) (Q : VK) : Dat → St → Prop := fun d st' => ∀ (v : V) (H' : Hp) (G' : Gw), Ext G st G' st' → Rp K NM TB G' H' st' → RepR K NM G' st'.length v d → Q v H'
inductive RepRs (G : Gw) (n : Nat) : List V → List Dat → Prop
  | nil : RepRs G n [] []
  | cons {v : V} {d : Dat} {vs : List V} {ds : List Dat} : RepR K NM G n v d → RepRs G n vs ds → RepRs G n (v :: vs) (d :: ds)
def KA (G : Gw) (st : St) (Q : List V → Hp → Prop) : List Dat → St → Prop := fun ds st' => ∀ (vs : List V) (H' : Hp) (G' : Gw), Ext G st G' st' → Rp K NM TB G' H' st' → RepRs K NM G' st'.length vs ds → Q vs H'
def KD (G : Gw) (st : St) (Q : List V → Hp → Prop) : List Dat → St → Prop := fun ds st' => ∀ (vs : List V) (H' : Hp) (G' : Gw), Ext G st G' st' → Rp K NM TB G' H' st' → RepVs K NM G'.F vs ds → Q vs H'
def KT (G : Gw) (st : St) (Q : Bool → Hp → Prop) : Bool → St → Prop := fun b st' => ∀ (H' : Hp) (G' : Gw), Ext G st G' st' → Rp K NM TB G' H' st' → Q b H'
def KO (G : Gw) (st : St) (Q : Option Int → Hp → Prop) : Option Int → St → Prop := fun b st' => ∀ (H' : Hp) (G' : Gw), Ext G st G' st' → Rp K NM TB G' H' st' → Q b H'
def tD (m : Env → St → Res Dat) (W : WX) : TE := fun σ H Q => ∃ δ st G, RepE K NM G st.length σ δ ∧ Rp K NM TB G H st ∧ (m δ st).wp (KX K NM TB G st Q) (EX K NM TB G st σ W)
/-- .. settled as a name's value -/
def tR (m : Env → St → Res Dat) (W : WX) : TE := fun σ H Q => ∃ δ st G, RepE K NM G st.length σ δ ∧ Rp K NM TB G H st ∧ (m δ st).wp (fun d st' => KR K NM TB G st Q (raw d) st') (EX K NM TB G st σ W)
def tAs (m : Env → St → Res (List Dat)) (W : WX) : TA := fun σ H Q => ∃ δ st G, RepE K NM G st.length σ δ ∧ Rp K NM TB G H st ∧ (m δ st).wp (KA K NM TB G st Q) (EX K NM TB G st σ W)
def tDs (m : Env → St → Res (List Dat)) (W : WX) : TA := fun σ H Q => ∃ δ st G, RepE K NM G st.length σ δ ∧ Rp K NM TB G H st ∧ (m δ st).wp (KD K NM TB G st Q) (EX K NM TB G st σ W)
def tTs (m : Env → St → Res Bool) (W : WX) : TT := fun σ H Q => ∃ δ st G, RepE K NM G st.length σ δ ∧ Rp K NM TB G H st ∧ (m δ st).wp (KT K NM TB G st Q) (EX K NM TB G st σ W)
def tOs (m : Env → St → Res (Option Int)) (W : WX) : TO := fun σ H Q => ∃ δ st G, RepE K NM G st.length σ δ ∧ Rp K NM TB G H st ∧ (m δ st).wp (KO K NM TB G st Q) (EX K NM TB G st σ W)
end
section
variable {K : PySem.W.Frag} {NM : Nm} {TB : Hp → Prop} {G G0 G1 : Gw} {H : Hp} {st st0 st1 : St} {σ : L2.St} {δ : Env} {W : WX} {β : Type} {Kk : β → St → Prop}
theorem EX.from (x : Ext G0 st0 G st) {c fs st'} (h : EX K NM TB G0 st0 σ W c fs st') : EX K NM TB G st σ W c fs st' := fun dd H' G' gs e r a b => h dd H' G' gs (x.trans e) r a b
theorem KX.from (x : Ext G0 st0 G st) {Q : VK} {d st'} (h : KX K NM TB G0 st0 Q d st') : KX K NM TB G st Q d st' := fun v H' G' e r a => h v H' G' (x.trans e) r a
theorem RepRs.ext {vs : List V} {ds : List Dat} (x : Ext G st G1 st1) (r : RepRs K NM G st.length vs ds) : RepRs K NM G1 st1.length vs ds := by
  induction r with
  | nil => exact .nil
  | cons a _ ih => exact .cons (a.ext x) ih
theorem RepRs.length {n : Nat} {vs : List V} {ds : List Dat} (r : RepRs K NM G n vs ds) : vs.length = ds.length := by
  induction r with
  | nil => rfl
  | cons _ _ ih => exact congrArg (· + 1) ih
/-- one expression, then the rest: R is what the rest asks -/
theorem seqD {m : Env → St → Res Dat} {f : Dat → St → Res β} {R : VK} (x0 : Ext G0 st0 G st) (hE : RepE K NM G st.length σ δ) (hR : Rp K NM TB G H st) (hw : ((m δ st).bnd f).wp Kk (EX K NM TB G0 st0 σ W))
    (k : ∀ d st1 v H1 G1, Ext G0 st0 G1 st1 → Ext G st G1 st1 → RepE K NM G1 st1.length σ δ → Rp K NM TB G1 H1 st1 → RepX K NM G1 H1 st1 v d → (f d st1).wp Kk (EX K NM TB G0 st0 σ W) → R v H1) : tD K NM TB m W σ H R := by
  refine ⟨δ, st, G, hE, hR, ?_⟩
  cases e : m δ st with
  | ok d st1 =>
    rw [e] at hw
    exact fun v H1 G1 e1 r1 x1 => k d st1 v H1 G1 (x0.trans e1) e1 (hE.ext e1) r1 x1 hw
  | err c fs st1 =>
    rw [e] at hw
    exact EX.from x0 hw
  | stuck =>
    rw [e] at hw
    exact hw
/-- .. the value made data first -/
theorem seqR {m : Env → St → Res Dat} {f : Dat → St → Res β} {R : VK} (x0 : Ext G0 st0 G st) (hE : RepE K NM G st.length σ δ) (hR : Rp K NM TB G H st) (hw : ((m δ st).bnd f).wp Kk (EX K NM TB G0 st0 σ W))
    (k : ∀ d st1 v H1 G1, Ext G0 st0 G1 st1 → Ext G st G1 st1 → RepE K NM G1 st1.length σ δ → Rp K NM TB G1 H1 st1 → RepR K NM G1 st1.length v (raw d) → (f d st1).wp Kk (EX K NM TB G0 st0 σ W) → R v H1) : tD K NM TB m W σ H R :=
  seqD x0 hE hR hw fun d st1 v H1 G1 e1 l1 h1 r1 x1 hw1 => by
    obtain ⟨G2, e2, r2, x2⟩ := r1.rawX x1
    exact k d st1 v H1 G2 (e1.trans e2) (l1.trans e2) (h1.ext e2) r2 x2 hw1
/-- .. or settled -/
theorem seqS {m : Env → St → Res Dat} {f : Dat → St → Res β} {R : VK} (x0 : Ext G0 st0 G st) (hE : RepE K NM G st.length σ δ) (hR : Rp K NM TB G H st) (hw : ((m δ st).bnd fun d s => (settle d s).bnd f).wp Kk (EX K NM TB G0 st0 σ W))
    (k : ∀ d st1 v H1 G1, Ext G0 st0 G1 st1 → Ext G st G1 st1 → RepE K NM G1 st1.length σ δ → Rp K NM TB G1 H1 st1 → RepV K NM G1.F v d → (f d st1).wp Kk (EX K NM TB G0 st0 σ W) → R v H1) : tD K NM TB m W σ H R :=
  seqD x0 hE hR hw fun d st1 v H1 G1 e1 l1 h1 r1 x1 hw1 => by
    obtain ⟨d2, st2, G2, q2, e2, r2, x2⟩ := r1.settleX x1
    rw [q2] at hw1
    exact k d2 st2 v H1 G2 (e1.trans e2) (l1.trans e2) (h1.ext e2) r2 x2 hw1
theorem seqT {m : Env → St → Res Bool} {f : Bool → St → Res β} {R : Bool → Hp → Prop} (x0 : Ext G0 st0 G st) (hE : RepE K NM G st.length σ δ) (hR : Rp K NM TB G H st) (hw : ((m δ st).bnd f).wp Kk (EX K NM TB G0 st0 σ W))
    (k : ∀ d st1 H1 G1, Ext G0 st0 G1 st1 → Ext G st G1 st1 → RepE K NM G1 st1.length σ δ → Rp K NM TB G1 H1 st1 → (f d st1).wp Kk (EX K NM TB G0 st0 σ W) → R d H1) : tTs K NM TB m W σ H R := by
  refine ⟨δ, st, G, hE, hR, ?_⟩
  cases e : m δ st with
  | ok d st1 =>
    rw [e] at hw
    exact fun H1 G1 e1 r1 => k d st1 H1 G1 (x0.trans e1) e1 (hE.ext e1) r1 hw
  | err c fs st1 =>
    rw [e] at hw
    exact EX.from x0 hw
  | stuck =>
    rw [e] at hw
    exact hw
theorem seqO {m : Env → St → Res (Option Int)} {f : Option Int → St → Res β} {R : Option Int → Hp → Prop} (x0 : Ext G0 st0 G st) (hE : RepE K NM G st.length σ δ) (hR : Rp K NM TB G H st) (hw : ((m δ st).bnd f).wp Kk (EX K NM TB G0 st0 σ W))
    (k : ∀ d st1 H1 G1, Ext G0 st0 G1 st1 → Ext G st G1 st1 → RepE K NM G1 st1.length σ δ → Rp K NM TB G1 H1 st1 → (f d st1).wp Kk (EX K NM TB G0 st0 σ W) → R d H1) : tOs K NM TB m W σ H R := by
  refine ⟨δ, st, G, hE, hR, ?_⟩
  cases e : m δ st with
  | ok d st1 =>
    rw [e] at hw
    exact fun H1 G1 e1 r1 => k d st1 H1 G1 (x0.trans e1) e1 (hE.ext e1) r1 hw
  | err c fs st1 =>
    rw [e] at hw
    exact EX.from x0 hw
  | stuck =>
    rw [e] at hw
    exact hw
theorem seqA {m : Env → St → Res (List Dat)} {f : List Dat → St → Res β} {R : List V → Hp → Prop} (x0 : Ext G0 st0 G st) (hE : RepE K NM G st.length σ δ) (hR : Rp K NM TB G H st) (hw : ((m δ st).bnd f).wp Kk (EX K NM TB G0 st0 σ W))
    (k : ∀ ds st1 vs H1 G1, Ext G0 st0 G1 st1 → Ext G st G1 st1 → RepE K NM G1 st1.length σ δ → Rp K NM TB G1 H1 st1 → RepRs K NM G1 st1.length vs ds → (f ds st1).wp Kk (EX K NM TB G0 st0 σ W) → R vs H1) : tAs K NM TB m W σ H R := by
  refine ⟨δ, st, G, hE, hR, ?_⟩
  cases e : m δ st with
  | ok d st1 =>
    rw [e] at hw
    exact fun v H1 G1 e1 r1 x1 => k d st1 v H1 G1 (x0.trans e1) e1 (hE.ext e1) r1 x1 hw
  | err c fs st1 =>
    rw [e] at hw
    exact EX.from x0 hw
  | stuck =>
    rw [e] at hw
    exact hw
theorem seqL {m : Env → St → Res (List Dat)} {f : List Dat → St → Res β} {R : List V → Hp → Prop} (x0 : Ext G0 st0 G st) (hE : RepE K NM G st.length σ δ) (hR : Rp K NM TB G H st) (hw : ((m δ st).bnd f).wp Kk (EX K NM TB G0 st0 σ W))
    (k : ∀ ds st1 vs H1 G1, Ext G0 st0 G1 st1 → Ext G st G1 st1 → RepE K NM G1 st1.length σ δ → Rp K NM TB G1 H1 st1 → RepVs K NM G1.F vs ds → (f ds st1).wp Kk (EX K NM TB G0 st0 σ W) → R vs H1) : tDs K NM TB m W σ H R := by
  refine ⟨δ, st, G, hE, hR, ?_⟩
  cases e : m δ st with
  | ok d st1 =>
    rw [e] at hw
    exact fun v H1 G1 e1 r1 x1 => k d st1 v H1 G1 (x0.trans e1) e1 (hE.ext e1) r1 x1 hw
  | err c fs st1 =>
    rw [e] at hw
    exact EX.from x0 hw
  | stuck =>
    rw [e] at hw
    exact hw
theorem wp_opt {α : Type} {o : Option α} {s : St} {K E} (h : (opt o s).wp K E) : ∃ a, o = some a ∧ K a s := by
  cases o with
  | none => exact h.elim
  | some a => exact ⟨a, rfl, h⟩
theorem wp_optb {α β : Type} {o : Option α} {f : α → St → Res β} {s : St} {K E} (h : ((opt o s).bnd f).wp K E) : ∃ a, o = some a ∧ (f a s).wp K E := by
  cases o with
  | none => exact h.elim
  | some a => exact ⟨a, rfl, h⟩
end
section
variable {X : Cx} {NM : Nm} {TB : Hp → Prop} {W : WX} {P : Prog} {Φ Ψ : Fun} {a b c : Expr} {ia ib ic : IE} {pos : Pos}
abbrev DE (X : Cx) (NM : Nm) (TB : Hp → Prop) (W : WX) (P : Prog) (Φ Ψ : Fun) (e : Expr) (i : IE) : Prop := PE X e (tD X.K NM TB (ev P Φ Ψ i) W)
abbrev DT (X : Cx) (NM : Nm) (TB : Hp → Prop) (W : WX) (P : Prog) (Φ Ψ : Fun) (e : Expr) (i : IT) : Prop := PT X e (tTs X.K NM TB (evT P Φ Ψ i) W)
/-- constants -/
inductive IsC : Const → Dat → Prop
  | non : IsC .none .non
  | bl (b : Bool) : IsC (.bool b) (.bl b)
  | int (i : Int) : IsC (.int i) (.int i)
  | str (x : Str) : IsC (.str x) (.str x)
theorem de_const {k : Const} {d : Dat} {j : Nat} (h : IsC k d) : DE X NM TB W P Φ Ψ (.Constant k j pos) (.const d) := by
  cases h with
  | non => exact PE.imp L2.pe_non fun σ H Q ⟨δ, st, G, hE, hR, hw⟩ => hw _ H G .refl hR (RepV.toX .non)
  | bl b => exact PE.imp L2.pe_bl fun σ H Q ⟨δ, st, G, hE, hR, hw⟩ => hw _ H G .refl hR (RepV.toX (.bl b))
  | int b => exact PE.imp L2.pe_int fun σ H Q ⟨δ, st, G, hE, hR, hw⟩ => hw _ H G .refl hR (RepV.toX (.int b))
  | str b => exact PE.imp L2.pe_str fun σ H Q ⟨δ, st, G, hE, hR, hw⟩ => hw _ H G .refl hR (RepV.toX (.str b))
theorem de_var {i : Nat} {x : Str} (hN : X.N[i]? = some x) (hv : L2.Vis X.env.scope x) (hd : (x == ("__debug__" : Str)) = false) (hcd : (x == ("__classdict__" : Str)) = false) : DE X NM TB W P Φ Ψ (.Name x pos) (.var i) := by
  refine PE.imp (L2.pe_var hN hv hd hcd) fun σ H Q ⟨δ, st, G, hE, hR, hw⟩ => ?_
  obtain ⟨d, hd, q⟩ := wp_opt hw
  have hd' : δ[i]? = some (some d) := by
    rw [List.getD_eq_getElem?_getD] at hd
    cases e : δ[i]? with
    | none => rw [e] at hd; cases hd
    | some o => rw [e] at hd; exact congrArg some hd
  obtain ⟨v, h1, h2⟩ := hE.at_ i d hd'
  exact ⟨v, h1, q v H G .refl hR h2.toX⟩
/-- a module's constant -/
theorem de_glob {x : Str} {k : Const} {d : Dat} {u : Value} {v : V} (hg : L2.Gl X x) (hm : X.mg x = some u) (r : L2.RelV v u) (hd : (x == ("__debug__" : Str)) = false) (h : ∀ F, RepV X.K NM F v d) : DE X NM TB W P Φ Ψ (.Name x pos) (.const d) :=
  PE.imp (L2.pe_glob hg hm r hd) fun σ H Q ⟨δ, st, G, hE, hR, hw⟩ => hw _ H G .refl hR (h _).toX
theorem KX.give {K : PySem.W.Frag} {G G0 : Gw} {st st0 : St} {z : Dat} {Q : VK} (x : Ext G0 st0 G st) (h : KX K NM TB G0 st0 Q z st) : Give K NM TB G st z Q := fun w H' G' e r q => h w H' G' (x.trans e) r q
theorem de_bin (tp : TbP TB) (op : BOp) (ha : DE X NM TB W P Φ Ψ a ia) (hb : DE X NM TB W P Φ Ψ b ib) : DE X NM TB W P Φ Ψ (.BinOp a op.op b pos) (.bin op ia ib) := by
  refine PE.imp (L2.pe_op (op_bin (NM := NM) tp op) ha hb) fun σ H Q ⟨δ, st, G, hE, hR, hw⟩ => ?_
  refine seqR .refl hE hR hw fun x st1 v H1 G1 e1 _ hE1 r1 x1 hw1 => ?_
  refine seqR e1 hE1 r1 hw1 fun y st2 u H2 G2 e2 l2 hE2 r2 x2 hw2 => ?_
  obtain ⟨z, hz, q⟩ := wp_opt hw2
  exact ⟨_, _, G2, st2, z, r2.viewR (x1.ext l2), r2.viewR x2, r2, hz, q.give e2⟩
end
end Z

set_option linter.all false
set_option maxRecDepth 100000
set_option maxHeartbeats 2000000
namespace Z
open PySem PySem.Spec PyProof.Rows
open L2 (V Hp HO Key VK XK TE TT TA TS TG TGs TO TI WX Cx Inv Ends SqL SqT Same upd upd_same upd_ne ne_of ne_of_none OpR UnR CallR R2 Dp DpAll IxR SlR PE PT PW PA PS PSs PG PGs PI PO PTs)
section
variable {X : Cx} {NM : Nm} {TB : Hp → Prop} {W : WX} {P : Prog} {Φ Ψ : Fun} {a b c : Expr} {ia ib ic : IE} {pos : Pos} {rest : List Expr}
theorem rx_int {K : PySem.W.Frag} {G : Gw} {H : Hp} {st : St} {v : V} {i : Int} (x : RepX K NM G H st v (.int i)) : v = .int i := by
  have x' : RepV K NM G.F v (.int i) := x
  cases x'; rfl
theorem raw_int {x : Dat} {i : Int} (h : raw x = .int i) : x = .int i := by
  cases x <;> first | exact h | cases h
theorem de_neg (ha : DE X NM TB W P Φ Ψ a ia) : DE X NM TB W P Φ Ψ (.UnaryOp .USub a pos) (.neg ia) := by
  refine PE.imp (L2.pe_un L2.un_neg ha) fun σ H Q ⟨δ, st, G, hE, hR, hw⟩ => ?_
  refine seqD .refl hE hR hw fun x st1 v H1 G1 e1 _ hE1 r1 x1 hw1 => ?_
  obtain ⟨z, hz, q⟩ := wp_opt hw1
  cases x with
  | int i =>
    cases hz
    exact ⟨i, rx_int x1, q _ _ _ e1 r1 (RepV.toX (.int _))⟩
  | _ => cases hz
theorem de_inv (ha : DE X NM TB W P Φ Ψ a ia) : DE X NM TB W P Φ Ψ (.UnaryOp .Invert a pos) (.inv ia) := by
  refine PE.imp (L2.pe_un L2.un_inv ha) fun σ H Q ⟨δ, st, G, hE, hR, hw⟩ => ?_
  refine seqD .refl hE hR hw fun x st1 v H1 G1 e1 _ hE1 r1 x1 hw1 => ?_
  obtain ⟨z, hz, q⟩ := wp_opt hw1
  cases x with
  | int i =>
    cases hz
    exact ⟨i, rx_int x1, q _ _ _ e1 r1 (RepV.toX (.int _))⟩
  | _ => cases hz
theorem chain_imp (op op2 : COp) {σ : L2.St} {H : Hp} {Q : VK} (h : tD X.K NM TB (ev P Φ Ψ (.chain op op2 ia ib ic)) W σ H Q) :
    L2.tChain (rCmp X.K NM TB op) (rCmp X.K NM TB op2) (tD X.K NM TB (ev P Φ Ψ ia) W) (tD X.K NM TB (ev P Φ Ψ ib) W) (tD X.K NM TB (ev P Φ Ψ ic) W) σ H Q := by
  obtain ⟨δ, st, G, hE, hR, hw⟩ := h
  refine seqR .refl hE hR hw fun x st1 v H1 G1 e1 _ hE1 r1 x1 hw1 => ?_
  refine seqR e1 hE1 r1 hw1 fun y st2 u H2 G2 e2 l2 hE2 r2 x2 hw2 => ?_
  obtain ⟨k, hk, hw3⟩ := wp_optb hw2
  refine ⟨_, _, G2, st2, k, r2.viewR (x1.ext l2), r2.viewR x2, r2, hk, k, rfl, ?_⟩
  cases k with
  | true =>
    refine L2.iteT ?_
    refine seqR e2 hE2 r2 hw3 fun z st3 u3 H3 G3 e3 l3 hE3 r3 x3 hw4 => ?_
    obtain ⟨q0, hq0, hq1⟩ := wp_opt hw4
    cases hc0 : cmpop op2 (view st3 (raw y)) (view st3 (raw z)) with
    | none => rw [hc0] at hq0; cases hq0
    | some k2 =>
      rw [hc0] at hq0
      cases hq0
      exact ⟨_, _, G3, st3, k2, r3.viewR (x2.ext l3), r3.viewR x3, r3, hc0, hq1 _ _ _ e3 r3 (RepV.toX (.bl _))⟩
  | false => exact L2.iteF (hw3 _ _ _ e2 r2 (RepV.toX (.bl _)))
theorem de_chain (hu : X.A.units + 65 < cLine) (op op2 : COp) (ha : DE X NM TB W P Φ Ψ a ia) (hb : DE X NM TB W P Φ Ψ b ib) (hc : DE X NM TB W P Φ Ψ c ic) (hm : lastMarks [op.op, op2.op] [b, c] = false) :
    DE X NM TB W P Φ Ψ (.Compare a [op.op, op2.op] [b, c] pos) (.chain op op2 ia ib ic) :=
  PE.imp (L2.pe_chain (op_cmp (NM := NM) (TB := TB) hu op) (op_cmp (NM := NM) (TB := TB) hu op2) ha hb hc hm) fun σ H Q h => chain_imp op op2 h
theorem de_one {op : PySem.BoolOp} (ha : DE X NM TB W P Φ Ψ a ia) : DE X NM TB W P Φ Ψ (.BoolOp op [a] pos) ia := L2.pe_one ha
theorem de_and (ha : DE X NM TB W P Φ Ψ a ia) (hb : DE X NM TB W P Φ Ψ (.BoolOp .And (b :: rest) pos) ib) : DE X NM TB W P Φ Ψ (.BoolOp .And (a :: b :: rest) pos) (.and_ ia ib) := by
  refine PE.imp (L2.pe_andT ha hb) fun σ H Q ⟨δ, st, G, hE, hR, hw⟩ => ?_
  refine seqR .refl hE hR hw fun x st1 v H1 G1 e1 _ hE1 r1 x1 hw1 => ?_
  obtain ⟨k, hk, hw2⟩ := wp_optb hw1
  refine ⟨k, rw_truth r1 (r1.viewR x1) hk, ?_⟩
  cases k with
  | true => exact L2.iteT ⟨δ, st1, G1, hE1, r1, by
      cases e : ev P Φ Ψ ib δ st1 with
      | ok d s => rw [e] at hw2; exact KX.from e1 hw2
      | err c fs s => rw [e] at hw2; exact EX.from e1 hw2
      | stuck => rw [e] at hw2; exact hw2⟩
  | false => exact L2.iteF (hw2 _ _ _ e1 r1 x1.toX)
theorem de_or (ha : DE X NM TB W P Φ Ψ a ia) (hb : DE X NM TB W P Φ Ψ (.BoolOp .Or (b :: rest) pos) ib) : DE X NM TB W P Φ Ψ (.BoolOp .Or (a :: b :: rest) pos) (.or_ ia ib) := by
  refine PE.imp (L2.pe_orT ha hb) fun σ H Q ⟨δ, st, G, hE, hR, hw⟩ => ?_
  refine seqR .refl hE hR hw fun x st1 v H1 G1 e1 _ hE1 r1 x1 hw1 => ?_
  obtain ⟨k, hk, hw2⟩ := wp_optb hw1
  refine ⟨k, rw_truth r1 (r1.viewR x1) hk, ?_⟩
  cases k with
  | true => exact L2.iteT (hw2 _ _ _ e1 r1 x1.toX)
  | false => exact L2.iteF ⟨δ, st1, G1, hE1, r1, by
      cases e : ev P Φ Ψ ib δ st1 with
      | ok d s => rw [e] at hw2; exact KX.from e1 hw2
      | err c fs s => rw [e] at hw2; exact EX.from e1 hw2
      | stuck => rw [e] at hw2; exact hw2⟩
theorem de_not (ha : DE X NM TB W P Φ Ψ a ia) : DE X NM TB W P Φ Ψ (.UnaryOp .Not a pos) (.not_ ia) := by
  refine PE.imp (L2.pe_notT ha) fun σ H Q ⟨δ, st, G, hE, hR, hw⟩ => ?_
  refine seqR .refl hE hR hw fun x st1 v H1 G1 e1 _ hE1 r1 x1 hw1 => ?_
  obtain ⟨k, hk, hw2⟩ := wp_optb hw1
  exact ⟨k, rw_truth r1 (r1.viewR x1) hk, hw2 _ _ _ e1 r1 (RepV.toX (.bl _))⟩
theorem tD_end {K : PySem.W.Frag} {G0 G : Gw} {st0 st : St} {σ : L2.St} {H : Hp} {δ : Env} {Q : VK} {m : Env → St → Res Dat} (e1 : Ext G0 st0 G st) (hE : RepE K NM G st.length σ δ) (r : Rp K NM TB G H st)
    (hw : (m δ st).wp (KX K NM TB G0 st0 Q) (EX K NM TB G0 st0 σ W)) : tD K NM TB m W σ H Q := ⟨δ, st, G, hE, r, by
  cases e : m δ st with
  | ok d s => rw [e] at hw; exact KX.from e1 hw
  | err c fs s => rw [e] at hw; exact EX.from e1 hw
  | stuck => rw [e] at hw; exact hw⟩
theorem de_ite {t : IT} (hc : DT X NM TB W P Φ Ψ c t) (ha : DE X NM TB W P Φ Ψ a ia) (hb : DE X NM TB W P Φ Ψ b ib) : DE X NM TB W P Φ Ψ (.IfExp c a b pos) (.ite t ia ib) := by
  refine PE.imp (L2.pe_ifExp hc ha hb) fun σ H Q ⟨δ, st, G, hE, hR, hw⟩ => ?_
  refine seqT .refl hE hR hw fun k st1 H1 G1 e1 _ hE1 r1 hw1 => ?_
  cases k with
  | true => exact L2.iteT (tD_end e1 hE1 r1 hw1)
  | false => exact L2.iteF (tD_end e1 hE1 r1 hw1)
theorem de_ix (ha : DE X NM TB W P Φ Ψ a ia) (hb : DE X NM TB W P Φ Ψ b ib) (hs : L2.PlainIx b) : DE X NM TB W P Φ Ψ (.Subscript a b pos) (.ix ia ib) := by
  refine PE.imp (L2.pe_ix (ix_ok (NM := NM) (TB := TB)) ha hb hs) fun σ H Q ⟨δ, st, G, hE, hR, hw⟩ => ?_
  refine seqR .refl hE hR hw fun x st1 v H1 G1 e1 _ hE1 r1 x1 hw1 => ?_
  refine seqR e1 hE1 r1 hw1 fun y st2 u H2 G2 e2 l2 hE2 r2 x2 hw2 => ?_
  obtain ⟨z, hz, q⟩ := wp_opt hw2
  refine ⟨_, y, G2, st2, z, r2.viewR (x1.ext l2), ?_, r2, hz, q.give e2⟩
  cases y with
  | fl _ => cases hx : view st2 (raw x) <;> rw [hx] at hz <;> cases hz
  | fd _ => cases hx : view st2 (raw x) <;> rw [hx] at hz <;> cases hz
  | _ => exact x2
theorem do_none : PO X none (tOs X.K NM TB (evO P Φ Ψ none) W) := PO.imp L2.po_none fun σ H Q ⟨δ, st, G, hE, hR, hw⟩ => hw _ _ .refl hR
theorem do_some (ha : DE X NM TB W P Φ Ψ a ia) : PO X (some a) (tOs X.K NM TB (evO P Φ Ψ (some ia)) W) := by
  refine PO.imp (L2.po_some ha) fun σ H Q ⟨δ, st, G, hE, hR, hw⟩ => ?_
  refine seqD .refl hE hR hw fun x st1 v H1 G1 e1 _ hE1 r1 x1 hw1 => ?_
  cases x with
  | int i => exact ⟨i, rx_int x1, hw1 _ _ e1 r1⟩
  | _ => exact hw1.elim
theorem de_sl {lo hi : Option Expr} {il ih : Option IE} {p2 : Pos} (tp : TbP TB) (ha : DE X NM TB W P Φ Ψ a ia) (hl : PO X lo (tOs X.K NM TB (evO P Φ Ψ il) W)) (hh : PO X hi (tOs X.K NM TB (evO P Φ Ψ ih) W)) :
    DE X NM TB W P Φ Ψ (.Subscript a (.Slice lo hi none p2) pos) (.sl ia il ih) := by
  refine PE.imp (L2.pe_slice (sl_ok (NM := NM) tp) ha hl hh) fun σ H Q ⟨δ, st, G, hE, hR, hw⟩ => ?_
  refine seqR .refl hE hR hw fun x st1 v H1 G1 e1 _ hE1 r1 x1 hw1 => ?_
  refine seqO e1 hE1 r1 hw1 fun l st2 H2 G2 e2 l2 hE2 r2 hw2 => ?_
  refine seqO e2 hE2 r2 hw2 fun h st3 H3 G3 e3 l3 hE3 r3 hw3 => ?_
  obtain ⟨z, hz, q⟩ := wp_opt hw3
  exact ⟨_, G3, st3, z, r3.viewR ((x1.ext l2).ext l3), r3, hz, q.give e3⟩
abbrev DA (X : Cx) (NM : Nm) (TB : Hp → Prop) (W : WX) (P : Prog) (Φ Ψ : Fun) (es : List Expr) (is : List IE) : Prop := PA X es (tAs X.K NM TB (evs P Φ Ψ is) W)
abbrev DL (X : Cx) (NM : Nm) (TB : Hp → Prop) (W : WX) (P : Prog) (Φ Ψ : Fun) (es : List Expr) (is : List IE) : Prop := PA X es (tDs X.K NM TB (evD P Φ Ψ is) W)
theorem da_nil : DA X NM TB W P Φ Ψ [] [] := PA.imp L2.pa_nil fun σ H Q ⟨δ, st, G, hE, hR, hw⟩ => hw _ _ _ .refl hR .nil
theorem da_cons {es : List Expr} {is : List IE} (ha : DE X NM TB W P Φ Ψ a ia) (hr : DA X NM TB W P Φ Ψ es is) (hs : starEach (a :: es) X.env = (false, eval a X.env) :: starEach es X.env) : DA X NM TB W P Φ Ψ (a :: es) (ia :: is) := by
  refine PA.imp (L2.pa_cons ha hr hs) fun σ H Q ⟨δ, st, G, hE, hR, hw⟩ => ?_
  refine seqR .refl hE hR hw fun x st1 v H1 G1 e1 _ hE1 r1 x1 hw1 => ?_
  exact seqA e1 hE1 r1 hw1 fun ds st2 vs H2 G2 e2 l2 hE2 r2 x2 hw2 => hw2 _ _ _ e2 r2 (.cons (x1.ext l2) x2)
theorem dl_nil : DL X NM TB W P Φ Ψ [] [] := PA.imp L2.pa_nil fun σ H Q ⟨δ, st, G, hE, hR, hw⟩ => hw _ _ _ .refl hR .nil
theorem dl_cons {es : List Expr} {is : List IE} (ha : DE X NM TB W P Φ Ψ a ia) (hr : DL X NM TB W P Φ Ψ es is) (hs : starEach (a :: es) X.env = (false, eval a X.env) :: starEach es X.env) : DL X NM TB W P Φ Ψ (a :: es) (ia :: is) := by
  refine PA.imp (L2.pa_cons ha hr hs) fun σ H Q ⟨δ, st, G, hE, hR, hw⟩ => ?_
  refine seqS .refl hE hR hw fun x st1 v H1 G1 e1 _ hE1 r1 x1 hw1 => ?_
  exact seqL e1 hE1 r1 hw1 fun ds st2 vs H2 G2 e2 l2 hE2 r2 x2 hw2 => hw2 _ _ _ e2 r2 (.cons (x1.mono l2.sub) x2)
theorem de_tup {es : List Expr} {is : List IE} {k : Nat} (tp : TbP TB) (ha : DL X NM TB W P Φ Ψ es is) : DE X NM TB W P Φ Ψ (.Tuple es k pos) (.tupl is) := by
  refine PE.imp (L2.pe_tup ha) fun σ H Q ⟨δ, st, G, hE, hR, hw⟩ => ?_
  refine seqL .refl hE hR hw fun ds st1 vs H1 G1 e1 _ hE1 r1 x1 hw1 => ?_
  by_cases hz : big ds.length = true
  · rw [if_pos hz] at hw1
    exact ⟨by rw [x1.length]; exact le_line hz, fun p hp => (KX.give e1 hw1).newTup tp r1 x1 hp⟩
  · rw [if_neg hz] at hw1
    exact hw1.elim
theorem de_disp {es : List Expr} {is : List IE} (tp : TbP TB) (ha : DL X NM TB W P Φ Ψ es is) : DE X NM TB W P Φ Ψ (.List es pos) (.disp is) := by
  refine PE.imp (L2.pe_lst ha) fun σ H Q ⟨δ, st, G, hE, hR, hw⟩ => ?_
  refine seqL .refl hE hR hw fun ds st1 vs H1 G1 e1 _ hE1 r1 x1 hw1 => ?_
  by_cases hz : big ds.length = true
  · rw [if_pos hz] at hw1
    exact ⟨by rw [x1.length]; exact le_line hz, fun p hp => (KX.give e1 hw1).newLst tp r1 x1 hp⟩
  · rw [if_neg hz] at hw1
    exact hw1.elim
theorem dt_not {t : IT} (ha : DT X NM TB W P Φ Ψ a t) : DT X NM TB W P Φ Ψ (.UnaryOp .Not a pos) (.not_ t) := by
  refine PT.imp (L2.pt_not ha) fun σ H Q ⟨δ, st, G, hE, hR, hw⟩ => ?_
  exact seqT .refl hE hR hw fun k st1 H1 G1 e1 _ hE1 r1 hw1 => hw1 _ _ e1 r1
abbrev DW (X : Cx) (NM : Nm) (TB : Hp → Prop) (W : WX) (P : Prog) (Φ Ψ : Fun) (e : Expr) (i : IT) : Prop := PW X e (tTs X.K NM TB (evT P Φ Ψ i) W)
theorem dw_and1 {t : IT} (ha : DT X NM TB W P Φ Ψ a t) : DW X NM TB W P Φ Ψ (.BoolOp .And [a] pos) t := L2.pw_and1 ha
theorem dw_or1 {t : IT} (ha : DT X NM TB W P Φ Ψ a t) : DW X NM TB W P Φ Ψ (.BoolOp .Or [a] pos) t := L2.pw_or1 ha
theorem tT_end {K : PySem.W.Frag} {G0 G : Gw} {st0 st : St} {σ : L2.St} {H : Hp} {δ : Env} {Q : Bool → Hp → Prop} {m : Env → St → Res Bool} (e1 : Ext G0 st0 G st) (hE : RepE K NM G st.length σ δ) (r : Rp K NM TB G H st)
    (hw : (m δ st).wp (KT K NM TB G0 st0 Q) (EX K NM TB G0 st0 σ W)) : tTs K NM TB m W σ H Q := ⟨δ, st, G, hE, r, by
  cases e : m δ st with
  | ok d s => rw [e] at hw; exact fun H' G' e2 r2 => hw H' G' (e1.trans e2) r2
  | err c fs s => rw [e] at hw; exact EX.from e1 hw
  | stuck => rw [e] at hw; exact hw⟩
theorem dw_and {t u : IT} (ha : DT X NM TB W P Φ Ψ a t) (hb : DW X NM TB W P Φ Ψ (.BoolOp .And (b :: rest) pos) u) : DW X NM TB W P Φ Ψ (.BoolOp .And (a :: b :: rest) pos) (.and_ t u) := by
  refine PW.imp (L2.pw_and ha hb) fun σ H Q ⟨δ, st, G, hE, hR, hw⟩ => ?_
  refine seqT .refl hE hR hw fun k st1 H1 G1 e1 _ hE1 r1 hw1 => ?_
  cases k with
  | true => exact L2.iteT (tT_end e1 hE1 r1 hw1)
  | false => exact L2.iteF (hw1 _ _ e1 r1)
theorem dw_or {t u : IT} (ha : DT X NM TB W P Φ Ψ a t) (hb : DW X NM TB W P Φ Ψ (.BoolOp .Or (b :: rest) pos) u) : DW X NM TB W P Φ Ψ (.BoolOp .Or (a :: b :: rest) pos) (.or_ t u) := by
  refine PW.imp (L2.pw_or ha hb) fun σ H Q ⟨δ, st, G, hE, hR, hw⟩ => ?_
  refine seqT .refl hE hR hw fun k st1 H1 G1 e1 _ hE1 r1 hw1 => ?_
  cases k with
  | true => exact L2.iteT (hw1 _ _ e1 r1)
  | false => exact L2.iteF (tT_end e1 hE1 r1 hw1)
theorem dt_val (ha : DE X NM TB W P Φ Ψ a ia) (he : ∀ whole, isTrue a X.env whole = (do let v ← whole; standAt a.pos; holding [v] (truthy v))) : DT X NM TB W P Φ Ψ a (.val ia) := by
  refine PT.imp (L2.pt_truth ha he) fun σ H Q ⟨δ, st, G, hE, hR, hw⟩ => ?_
  refine seqR .refl hE hR hw fun x st1 v H1 G1 e1 _ hE1 r1 x1 hw1 => ?_
  obtain ⟨k, hk, q⟩ := wp_opt hw1
  exact ⟨k, rw_truth r1 (r1.viewR x1) hk, q _ _ e1 r1⟩
end
end Z

set_option linter.all false
set_option maxRecDepth 100000
set_option maxHeartbeats 2000000
namespace Z
open PySem PySem.Spec PyProof.Rows
open L2 (V Hp HO Key VK XK TE TT TA TS TG TGs TO TI WX Cx Inv Ends SqL SqT Same upd upd_same upd_ne ne_of ne_of_none OpR UnR CallR R2 Dp DpAll IxR SlR PE PT PW PA PS PSs PG PGs PI PO PTs PK FnOk Room Takes Vals RelV Sp EP XE thn)
def isStar : Expr → Bool
  | .Starred _ _ => true
  | _ => false
theorem star_cons {e : Expr} {es : List Expr} {env : PySem.Env} (h : isStar e = false) : starEach (e :: es) env = (false, eval e env) :: starEach es env := by
  cases e <;> first | rfl | cases h
def noStars (es : List Expr) : Bool := es.all fun e => !isStar e
theorem noStars_cons {e : Expr} {es : List Expr} (h : noStars (e :: es) = true) : isStar e = false ∧ noStars es = true := by
  unfold noStars at h
  rw [List.all_cons, Bool.and_eq_true] at h
  exact ⟨by simpa using h.1, h.2⟩
theorem star_any {pos : Pos} {env : PySem.Env} : ∀ {es : List Expr}, noStars es = true → (backTo pos (starEach es env)).any (·.1) = false
  | [], _ => rfl
  | e :: es, h => by
    obtain ⟨h1, h2⟩ := noStars_cons h
    rw [star_cons h1]
    show (false || (backTo pos (starEach es env)).any (·.1)) = false
    rw [star_any h2]
    rfl
def kwNames (kws : List Keyword) : List Str := kws.filterMap (·.arg)
def kwAll (kws : List Keyword) : Bool := kws.all (·.arg.isSome)
theorem kw_all {pos : Pos} {env : PySem.Env} : ∀ {kws : List Keyword}, kwAll kws = true → (backToKw pos (keywordEach kws env)).all (·.1.isSome) = true
  | [], _ => rfl
  | ⟨n, v, p⟩ :: r, h => by
    obtain ⟨h1, h2⟩ : n.isSome = true ∧ kwAll r = true := by
      unfold kwAll at h
      rw [List.all_cons, Bool.and_eq_true] at h
      exact h
    show (n.isSome && (backToKw pos (keywordEach r env)).all (·.1.isSome)) = true
    rw [h1, kw_all h2]
    rfl
theorem kw_none {pos : Pos} {env : PySem.Env} : ∀ {kws : List Keyword}, kwAll kws = true → (backToKw pos (keywordEach kws env)).any (·.1.isNone) = false
  | [], _ => rfl
  | ⟨n, v, p⟩ :: r, h => by
    obtain ⟨h1, h2⟩ : n.isSome = true ∧ kwAll r = true := by
      unfold kwAll at h
      rw [List.all_cons, Bool.and_eq_true] at h
      exact h
    show (n.isNone || (backToKw pos (keywordEach r env)).any (·.1.isNone)) = false
    cases n with
    | none => cases h1
    | some x => rw [kw_none h2]; rfl
theorem kw_names {pos : Pos} {env : PySem.Env} : ∀ {kws : List Keyword}, (backToKw pos (keywordEach kws env)).filterMap (·.1) = kwNames kws
  | [] => rfl
  | ⟨n, v, p⟩ :: r => by
    have ih := kw_names (pos := pos) (env := env) (kws := r)
    cases n with
    | none => exact ih
    | some x => exact congrArg (x :: ·) ih
section
variable {X : Cx} {NM : Nm} {TB : Hp → Prop} {W : WX} {P : Prog} {Φ Ψ : Fun}
/-- keywords' values -/
abbrev DK (X : Cx) (NM : Nm) (TB : Hp → Prop) (W : WX) (P : Prog) (Φ Ψ : Fun) (kws : List Keyword) (is : List IE) : Prop := PK X kws (tAs X.K NM TB (evs P Φ Ψ is) W)
theorem PK.imp {kws : List Keyword} {t t' : TA} (h : PK X kws t) (i : ∀ σ H Q, t' σ H Q → t σ H Q) : PK X kws t' := ⟨fun pos pins s σ H Q I q => h.run pos pins s σ H Q I (i σ H Q q)⟩
theorem dk_nil : DK X NM TB W P Φ Ψ [] [] := PK.imp L2.pk_nil fun σ H Q ⟨δ, st, G, hE, hR, hw⟩ => hw _ _ _ .refl hR .nil
theorem dk_cons {nm : Option Str} {e : Expr} {kp : Pos} {kws : List Keyword} {ia : IE} {is : List IE} (ha : DE X NM TB W P Φ Ψ e ia) (hr : DK X NM TB W P Φ Ψ kws is) : DK X NM TB W P Φ Ψ (⟨nm, e, kp⟩ :: kws) (ia :: is) := by
  refine PK.imp (L2.pk_cons ha hr) fun σ H Q ⟨δ, st, G, hE, hR, hw⟩ => ?_
  refine seqR .refl hE hR hw fun x st1 v H1 G1 e1 _ hE1 r1 x1 hw1 => ?_
  exact seqA e1 hE1 r1 hw1 fun ds st2 vs H2 G2 e2 l2 hE2 r2 x2 hw2 => hw2 _ _ _ e2 r2 (.cons (x1.ext l2) x2)
theorem evs_app {δ : Env} : ∀ {is js : List IE} {s : St}, evs P Φ Ψ (is ++ js) δ s = (evs P Φ Ψ is δ s).bnd fun ds s => (evs P Φ Ψ js δ s).bnd fun es s => .ok (ds ++ es) s
  | [], js, s => by
    show evs P Φ Ψ js δ s = (evs P Φ Ψ js δ s).bnd fun es s => .ok es s
    cases evs P Φ Ψ js δ s <;> rfl
  | i :: is, js, s => by
    show ((ev P Φ Ψ i δ s).bnd fun d s => (evs P Φ Ψ (is ++ js) δ s).bnd fun ds s => .ok (raw d :: ds) s) = (((ev P Φ Ψ i δ s).bnd fun d s => (evs P Φ Ψ is δ s).bnd fun ds s => .ok (raw d :: ds) s)).bnd _
    cases e : ev P Φ Ψ i δ s with
    | ok d s1 =>
      simp only [Res.bnd_ok, evs_app]
      cases evs P Φ Ψ is δ s1 with
      | ok ds s2 =>
        simp only [Res.bnd_ok]
        cases evs P Φ Ψ js δ s2 <;> rfl
      | err c fs s2 => rfl
      | stuck => rfl
    | err c fs s1 => rfl
    | stuck => rfl
theorem pure_use {α β : Type} {M : Model} {A : Around} {v : α} {Q0 : α → Shared → Prop} {E0 : Value → Shared → Prop} {t : Sem β} {Q : β → Shared → Prop} {E : Value → Shared → Prop} {s : Shared} (h : wpAny M A (pure v) Q0 E0 s) (k : Q0 v s → wpAny M A t Q E s) : wpAny M A t Q E s := fun Γ p hΓ => k (h Γ p hΓ) Γ p hΓ
/-- the arguments evaluated, then the call of the value with them -/
theorem call_args {es : List Expr} {kws : List Keyword} {is js : List IE} {pos : Pos} {f : Value} {first : List Value} {pins : List (Addr × Obj)} {s : Shared} {σ : L2.St} {H : Hp} {G0 G : Gw} {st0 st : St} {δ : Env} {β : Type} {g : List Dat → St → Res β} {Kk : β → St → Prop} {Qv : Value → Shared → Prop}
    (hk : PySem.W.keepIn X.K f = true) (ns : noStars es = true) (ka : kwAll kws = true) (ha : DA X NM TB W P Φ Ψ es is) (hkw : DK X NM TB W P Φ Ψ kws js) (I : Inv X pins σ H s)
    (x0 : Ext G0 st0 G st) (hE : RepE X.K NM G st.length σ δ) (hR : Rp X.K NM TB G H st) (hw : ((evs P Φ Ψ (is ++ js) δ st).bnd g).wp Kk (EX X.K NM TB G0 st0 σ W))
    (h : ∀ (ds es : List Dat) (st1 : St) (vs zs : List V) (us ws : List Value) (H1 : Hp) (G1 : Gw) (s1 : Shared), Ext G0 st0 G1 st1 → Ext G st G1 st1 → RepE X.K NM G1 st1.length σ δ → Rp X.K NM TB G1 H1 st1 → RepRs X.K NM G1 st1.length vs ds → RepRs X.K NM G1 st1.length zs es →
      ds.length = is.length → es.length = js.length → (g (ds ++ es) st1).wp Kk (EX X.K NM TB G0 st0 σ W) → Inv X pins σ H1 s1 → Vals vs us → Vals zs ws → wpAny (model X.prog X.w) X.A (call f (first ++ us) ((kwNames kws).zip ws)) Qv X.xe s1) :
    wpAny (model X.prog X.w) X.A (callWith pos f first (backTo pos (starEach es X.env)) (backToKw pos (keywordEach kws X.env))) Qv X.xe s := by
  rw [evs_app] at hw
  have hlen : ∀ {is : List IE} {δ : Env} {s s' : St} {ds : List Dat}, evs P Φ Ψ is δ s = .ok ds s' → ds.length = is.length := by
    intro is
    induction is with
    | nil => intro δ s s' ds e; cases e; rfl
    | cons i is ih =>
      intro δ s s' ds e
      have e : ((ev P Φ Ψ i δ s).bnd fun d s => (evs P Φ Ψ is δ s).bnd fun ds s => .ok (raw d :: ds) s) = .ok ds s' := e
      cases q : ev P Φ Ψ i δ s with
      | ok d s1 =>
        rw [q] at e
        simp only [Res.bnd_ok] at e
        cases q2 : evs P Φ Ψ is δ s1 with
        | ok ds2 s2 =>
          rw [q2] at e
          simp only [Res.bnd_ok] at e
          cases e
          exact congrArg (· + 1) (ih q2)
        | err c fs s2 => rw [q2] at e; cases e
        | stuck => rw [q2] at e; cases e
      | err c fs s1 => rw [q] at e; cases e
      | stuck => rw [q] at e; cases e
  -- the two lists, whatever stands around
  have pa : ∀ (R : List V → Hp → Prop) (_ : ∀ ds st1 vs H1 G1, Ext G0 st0 G1 st1 → Ext G st G1 st1 → RepE X.K NM G1 st1.length σ δ → Rp X.K NM TB G1 H1 st1 → RepRs X.K NM G1 st1.length vs ds → ds.length = is.length →
      ((evs P Φ Ψ js δ st1).bnd fun es s => g (ds ++ es) s).wp Kk (EX X.K NM TB G0 st0 σ W) → R vs H1), tAs X.K NM TB (evs P Φ Ψ is) W σ H R := by
    intro R k
    refine ⟨δ, st, G, hE, hR, ?_⟩
    cases e : evs P Φ Ψ is δ st with
    | ok ds st1 =>
      rw [e] at hw
      intro vs H1 G1 e1 r1 x1
      refine k ds st1 vs H1 G1 (x0.trans e1) e1 (hE.ext e1) r1 x1 (hlen e) ?_
      have hw' : (((evs P Φ Ψ js δ st1).bnd fun es s => .ok (ds ++ es) s).bnd g).wp Kk (EX X.K NM TB G0 st0 σ W) := hw
      cases q : evs P Φ Ψ js δ st1 with
      | ok es st2 => rw [q] at hw'; exact hw'
      | err c fs s => rw [q] at hw'; exact hw'
      | stuck => rw [q] at hw'; exact hw'
    | err c fs st1 =>
      rw [e] at hw
      exact EX.from x0 hw
    | stuck =>
      rw [e] at hw
      exact hw
  have pk : ∀ (ds : List Dat) (st1 : St) (vs : List V) (H1 : Hp) (G1 : Gw) (R : List V → Hp → Prop), Ext G0 st0 G1 st1 → RepE X.K NM G1 st1.length σ δ → Rp X.K NM TB G1 H1 st1 →
      ((evs P Φ Ψ js δ st1).bnd fun es s => g (ds ++ es) s).wp Kk (EX X.K NM TB G0 st0 σ W) →
      (∀ es st2 zs H2 G2, Ext G0 st0 G2 st2 → Ext G1 st1 G2 st2 → RepE X.K NM G2 st2.length σ δ → Rp X.K NM TB G2 H2 st2 → RepRs X.K NM G2 st2.length zs es → es.length = js.length → (g (ds ++ es) st2).wp Kk (EX X.K NM TB G0 st0 σ W) → R zs H2) →
      tAs X.K NM TB (evs P Φ Ψ js) W σ H1 R := by
    intro ds st1 vs H1 G1 R x1 hE1 r1 hw1 k
    refine ⟨δ, st1, G1, hE1, r1, ?_⟩
    cases e : evs P Φ Ψ js δ st1 with
    | ok es st2 =>
      rw [e] at hw1
      exact fun zs H2 G2 e2 r2 x2 => k es st2 zs H2 G2 (x1.trans e2) e2 (hE1.ext e2) r2 x2 (hlen e) hw1
    | err c fs s =>
      rw [e] at hw1
      exact EX.from x1 hw1
    | stuck =>
      rw [e] at hw1
      exact hw1
  cases kws with
  | nil =>
    -- no keywords: js = []
    show wpAny _ _ (callWith pos f first (backTo pos (starEach es X.env)) []) _ _ _
    have fin : ∀ {s1 : Shared} {us : List Value} {vs : List V} {H1 : Hp}, Inv X pins σ H1 s1 → Vals vs us → tAs X.K NM TB (evs P Φ Ψ js) W σ H1 (fun zs H2 => ∀ (ws : List Value) (s2 : Shared), Inv X pins σ H2 s2 → Vals zs ws → wpAny (model X.prog X.w) X.A (call f (first ++ us) []) Qv X.xe s2) →
        wpAny (model X.prog X.w) X.A (call f (first ++ us) []) Qv X.xe s1 := fun {s1 us vs H1} I1 r1 q => by
      refine pure_use (hkw.run pos pins s1 σ H1 _ I1 q) fun ⟨zs, H2, I2, rz, k2⟩ => ?_
      exact k2 [] s1 I2 rz
    cases es with
    | nil =>
      refine PySem.W.callWith_K0 I.kIn hk ?_
      have q := ha.run pos pins s σ H _ I (pa (fun vs H1 => ∀ (us : List Value) (s1 : Shared), Inv X pins σ H1 s1 → Vals vs us → us = [] → wpAny (model X.prog X.w) X.A (call f (first ++ us) []) Qv X.xe s1)
        fun ds st1 vs H1 G1 e1 l1 hE1 r1 x1 n1 hw1 us s1 I1 rv eu => fin I1 rv (pk ds st1 vs H1 G1 _ e1 hE1 r1 hw1 fun es st2 zs H2 G2 e2 l2 hE2 r2 x2 n2 hw2 ws s2 I2 rz => by
          have q := h ds es st2 vs zs us ws H2 G2 s2 e2 (l1.trans l2) hE2 r2 (x1.ext l2) x2 n1 n2 hw2 I2 rv rz
          exact q))
      exact pure_use q fun ⟨vs, H1, I1, rv, k1⟩ => k1 [] s I1 rv rfl
    | cons e es =>
      obtain ⟨n1, n2⟩ := noStars_cons ns
      refine PySem.W.callWith_K (h₀ := X.base) I.ok.mod.kin hk (thn (ha.run pos pins s σ H _ I (pa (fun vs H1 => ∀ (us : List Value) (s1 : Shared), Inv X pins σ H1 s1 → Vals vs us → wpAny (model X.prog X.w) X.A (call f (first ++ us) []) Qv X.xe s1)
        fun ds st1 vs H1 G1 e1 l1 hE1 r1 x1 n1 hw1 us s1 I1 rv => fin I1 rv (pk ds st1 vs H1 G1 _ e1 hE1 r1 hw1 fun es st2 zs H2 G2 e2 l2 hE2 r2 x2 n2 hw2 ws s2 I2 rz =>
          h ds es st2 vs zs us ws H2 G2 s2 e2 (l1.trans l2) hE2 r2 (x1.ext l2) x2 n1 n2 hw2 I2 rv rz))) fun us s1 ⟨vs, H1, I1, rv, k1⟩ => ⟨I1.kIn, k1 us s1 I1 rv⟩) (star_cons n1) (star_any n2)
  | cons kw kws =>
    have hall := kw_all (pos := pos) (env := X.env) ka
    have hpl : ((backTo pos (starEach es X.env)).any (·.1) || (backToKw pos (keywordEach (kw :: kws) X.env)).any (·.1.isNone)) = false := by
      rw [star_any ns, kw_none ka]
      rfl
    cases es with
    | nil =>
      refine PySem.W.callWith_KW0 (h₀ := X.base) I.ok.mod.kin hk hall ?_ hpl
      have q := ha.run pos pins s σ H _ I (pa (fun vs H1 => ∀ (s1 : Shared), Inv X pins σ H1 s1 → Vals vs [] → wpAny (model X.prog X.w) X.A (evalAll ((backToKw pos (keywordEach (kw :: kws) X.env)).map (·.2))) (fun ks s₂ => X.K.In s₂.heap ∧ wpAny (model X.prog X.w) X.A (call f (first ++ []) (((backToKw pos (keywordEach (kw :: kws) X.env)).filterMap (·.1)).zip ks)) Qv X.xe s₂) X.xe s1)
        fun ds st1 vs H1 G1 e1 l1 hE1 r1 x1 n1 hw1 s1 I1 rv => thn (hkw.run pos pins s1 σ H1 _ I1 (pk ds st1 vs H1 G1 (fun zs H2 => ∀ (ws : List Value) (s2 : Shared), Inv X pins σ H2 s2 → Vals zs ws → wpAny (model X.prog X.w) X.A (call f (first ++ []) (((backToKw pos (keywordEach (kw :: kws) X.env)).filterMap (·.1)).zip ws)) Qv X.xe s2) e1 hE1 r1 hw1 fun es st2 zs H2 G2 e2 l2 hE2 r2 x2 n2 hw2 ws s2 I2 rz => by
          rw [kw_names]
          exact h ds es st2 vs zs [] ws H2 G2 s2 e2 (l1.trans l2) hE2 r2 (x1.ext l2) x2 n1 n2 hw2 I2 rv rz)) fun ws s2 ⟨zs, H2, I2, rz, k2⟩ => ⟨I2.kIn, k2 ws s2 I2 rz⟩)
      exact thn (pure_use q fun ⟨vs, H1, I1, rv, k1⟩ => k1 s I1 rv) fun _ _ x => x
    | cons e es =>
      obtain ⟨n1, n2⟩ := noStars_cons ns
      refine PySem.W.callWith_KW (h₀ := X.base) I.ok.mod.kin hk hall (thn (ha.run pos pins s σ H _ I (pa (fun vs H1 => ∀ (us : List Value) (s1 : Shared), Inv X pins σ H1 s1 → Vals vs us → wpAny (model X.prog X.w) X.A (evalAll ((backToKw pos (keywordEach (kw :: kws) X.env)).map (·.2))) (fun ks s₂ => X.K.In s₂.heap ∧ wpAny (model X.prog X.w) X.A (call f (first ++ us) (((backToKw pos (keywordEach (kw :: kws) X.env)).filterMap (·.1)).zip ks)) Qv X.xe s₂) X.xe s1)
        fun ds st1 vs H1 G1 e1 l1 hE1 r1 x1 n1 hw1 us s1 I1 rv => thn (hkw.run pos pins s1 σ H1 _ I1 (pk ds st1 vs H1 G1 (fun zs H2 => ∀ (ws : List Value) (s2 : Shared), Inv X pins σ H2 s2 → Vals zs ws → wpAny (model X.prog X.w) X.A (call f (first ++ us) (((backToKw pos (keywordEach (kw :: kws) X.env)).filterMap (·.1)).zip ws)) Qv X.xe s2) e1 hE1 r1 hw1 fun es st2 zs H2 G2 e2 l2 hE2 r2 x2 n2 hw2 ws s2 I2 rz => by
          rw [kw_names]
          exact h ds es st2 vs zs us ws H2 G2 s2 e2 (l1.trans l2) hE2 r2 (x1.ext l2) x2 n1 n2 hw2 I2 rv rz)) fun ws s2 ⟨zs, H2, I2, rz, k2⟩ => ⟨I2.kIn, k2 ws s2 I2 rz⟩)) fun us s1 ⟨vs, H1, I1, rv, k1⟩ => k1 us s1 I1 rv) hpl (star_cons n1)
end
end Z

set_option linter.all false
set_option maxRecDepth 100000
namespace Z
open PySem PySem.Spec PyProof.Rows
structure Plain (p : Arguments) (ps : List Str) : Prop where
  po : p.posonlyargs = []
  ar : p.args.map (·.arg) = ps
  ko : p.kwonlyargs = []
  va : p.vararg = none
  ka : p.kwarg = none
theorem look_none {α : Type} {k : Str} : ∀ {l : List (Str × α)}, k ∉ l.map (·.1) → l.lookup k = none
  | [], _ => rfl
  | (n, v) :: r, h => by
    rw [List.lookup_cons]
    have h1 : k ≠ n := fun e => h (by rw [e]; exact List.mem_cons_self)
    have h2 : (k == n) = false := by simpa using h1
    rw [h2]
    exact look_none fun m => h (List.mem_cons_of_mem _ m)
theorem kw_loop {ps : List Str} (f : Str × Value → List (Str × Value) × List (Str × Value) → Sem (ForInStep (List (Str × Value) × List (Str × Value))))
    (hf : ∀ k v acc, ps.contains k = true → (acc.lookup k).isSome = false → f (k, v) (acc, []) = pure (.yield (acc ++ [(k, v)], []))) :
    ∀ (ks : List Str) (ws : List Value) (acc : List (Str × Value)), (∀ k ∈ ks, ps.contains k = true) → ks.Nodup → (∀ k ∈ ks, k ∉ acc.map (·.1)) → forIn (ks.zip ws) (acc, ([] : List (Str × Value))) f = pure (acc ++ ks.zip ws, [])
  | [], ws, acc, _, _, _ => by
    show forIn [] _ f = _
    rw [List.forIn_nil]; simp
  | k :: ks, [], acc, _, _, _ => by
    show forIn [] _ f = _
    rw [List.forIn_nil]; simp
  | k :: ks, w :: ws, acc, h1, h2, h3 => by
    show forIn ((k, w) :: ks.zip ws) _ f = _
    rw [List.forIn_cons, hf k w acc (h1 k List.mem_cons_self) (by rw [look_none (h3 k List.mem_cons_self)]; rfl), pure_bind]
    show forIn (ks.zip ws) (acc ++ [(k, w)], []) f = _
    rw [kw_loop f hf ks ws (acc ++ [(k, w)]) (fun x m => h1 x (List.mem_cons_of_mem _ m)) (List.nodup_cons.mp h2).2 fun x m => by
      rw [List.map_append, List.mem_append, not_or]
      refine ⟨h3 x (List.mem_cons_of_mem _ m), fun q => ?_⟩
      have e : x = k := by simpa using q
      exact (List.nodup_cons.mp h2).1 (e ▸ m)]
    rw [List.append_assoc]
    rfl
theorem fm_congr {α β : Type} {f g : α → Option β} : ∀ {l : List α}, (∀ x ∈ l, f x = g x) → l.filterMap f = l.filterMap g
  | [], _ => rfl
  | x :: r, h => by rw [List.filterMap_cons, List.filterMap_cons, h x List.mem_cons_self, fm_congr fun y m => h y (List.mem_cons_of_mem _ m)]
theorem fst_zip {α β : Type} : ∀ {ps : List α} {us : List β}, (ps.zip us).map (·.1) = ps.take us.length
  | [], us => by simp
  | p :: ps, [] => by simp
  | p :: ps, u :: us => by simp [fst_zip (ps := ps) (us := us)]
theorem look_zip {α : Type} : ∀ {ps : List Str} {us : List α}, ps.Nodup → us.length = ps.length → ps.filterMap (fun n => ((ps.zip us).lookup n).map (n, ·)) = ps.zip us
  | [], [], _, _ => rfl
  | p :: ps, u :: us, nd, hl => by
    obtain ⟨h1, h2⟩ := List.nodup_cons.mp nd
    have ih := look_zip (ps := ps) (us := us) h2 (by simpa using hl)
    rw [List.zip_cons_cons, List.filterMap_cons]
    have e : ((p, u) :: ps.zip us).lookup p = some u := by rw [List.lookup_cons]; simp
    rw [e]
    show (p, u) :: _ = _
    refine congrArg ((p, u) :: ·) (Eq.trans ?_ ih)
    refine fm_congr fun x m => ?_
    rw [List.lookup_cons, show (x == p) = false from by simpa using fun e : x = p => h1 (e ▸ m)]
theorem zip_split {α : Type} {ps : List Str} {us ws : List α} (hl : us.length ≤ ps.length) : ps.zip us ++ (ps.drop us.length).zip ws = ps.zip (us ++ ws) := by
  induction us generalizing ps with
  | nil => cases ps <;> simp
  | cons u us ih =>
    cases ps with
    | nil => simp at hl
    | cons p ps =>
      simp only [List.zip_cons_cons, List.cons_append, List.length_cons, List.drop_succ_cons]
      rw [ih (by simpa using hl)]
theorem bind_plain {fd : FuncData} {ps ks : List Str} {us ws : List Value} (hp : Plain fd.params ps) (nd : ps.Nodup) (hd : fd.defaults = .none) (hk : ks = ps.drop us.length) (hw : ws.length = ks.length) (hl : us.length ≤ ps.length) :
    bindArgs fd ⟨us, ks.zip ws⟩ = pure (ps.zip (us ++ ws)) := by
  have h1 : seqItems? fd.defaults = pure none := by rw [hd]; rfl
  have hz : (us ++ ws).length = ps.length := by rw [List.length_append, hw, hk, List.length_drop]; omega
  have hs : ps.zip us ++ ks.zip ws = ps.zip (us ++ ws) := by rw [hk]; exact zip_split hl
  have nd2 : (ps.take us.length ++ ps.drop us.length).Nodup := by rw [List.take_append_drop]; exact nd
  have hlook := look_zip nd hz
  have hmiss : ∀ l : List Str, (∀ n ∈ l, n ∈ ps) → l.filter (fun n => ((ps.zip (us ++ ws)).lookup n).isNone) = [] := fun l hm => by
    rw [List.filter_eq_nil_iff]
    intro n m
    have hn : n ∈ (ps.zip (us ++ ws)).map (·.1) := by
      rw [List.map_fst_zip (by omega)]
      exact hm n m
    obtain ⟨⟨a, b⟩, m1, rfl⟩ := List.mem_map.mp hn
    obtain ⟨c, hc⟩ := L2.mem_lookup m1
    rw [hc]
    simp
  unfold bindArgs
  rw [h1]
  simp only [hp.po, hp.ar, hp.ko, hp.va, hp.ka, List.map_nil, List.nil_append, List.append_nil, pure_bind, Option.getD_none, List.drop_nil, List.length_nil]
  rw [kw_loop (ps := ps) _ (fun k v acc h1 h2 => by
    have h1 : ((ps.contains k || List.contains [] k) = true) := by rw [h1]; rfl
    have h2 : ¬ ((acc.lookup k).isSome = true) := by rw [h2]; exact Bool.false_ne_true
    simp only [h1, if_true]
    rw [if_neg h2]) ks ws (ps.zip us) (fun k m => by
      rw [hk] at m
      simpa using List.mem_of_mem_drop m) (by rw [hk]; exact (List.nodup_append.mp nd2).2.1) (fun k m q => by
      rw [hk] at m
      have q' : k ∈ ps.take us.length := by
        rw [fst_zip] at q
        exact q
      exact (List.nodup_append.mp nd2).2.2 k q' k m rfl), pure_bind, hs]
  have hg : (decide (us.length > ps.length) && (none : Option Arg).isNone) = false := by rw [decide_eq_false (by omega)]; rfl
  rw [hg]
  simp only [Nat.sub_zero, List.take_length, List.drop_length, List.drop_nil, List.zip_nil_right, List.forIn_nil, hmiss ps (fun _ m => m), pure_bind, List.isEmpty_nil, Bool.not_true, Bool.false_eq_true, if_false, hlook]
end Z

set_option linter.all false
set_option maxRecDepth 100000
set_option maxHeartbeats 2000000
namespace Z
open PySem PySem.Spec PyProof.Rows
open L2 (V Hp HO Key VK XK TE TT TA TS TG TGs TO TI WX Cx Inv Ends SqL SqT Same upd upd_same upd_ne ne_of ne_of_none OpR UnR CallR R2 Dp DpAll IxR SlR PE PT PW PA PS PSs PG PGs PI PO PTs PK FnOk Room Vals RelV Sp EP thn)
open L2 (Takes XE)
/-- what a function of the little language promises, as a def's promise -/
def spD (K : PySem.W.Frag) (NM : Nm) (TB : Hp → Prop) (np : Nat) (F : List Dat → St → Res Dat) : Sp := fun vs H Q E => ∃ ds st G, vs.length = np ∧ RepRs K NM G st.length vs ds ∧ Rp K NM TB G H st ∧
  (F ds st).wp (KR K NM TB G st Q) (EX K NM TB G st [] fun c d _ H' => E c d H')
theorem KR.from {K : PySem.W.Frag} {NM : Nm} {TB : Hp → Prop} {G G0 : Gw} {st st0 : St} {Q : VK} (x : Ext G0 st0 G st) {d st'} (h : KR K NM TB G0 st0 Q d st') : KR K NM TB G st Q d st' := fun v H' G' e r a => h v H' G' (x.trans e) r a
section
variable {X : Cx} {NM : Nm} {TB : Hp → Prop} {W : WX} {P : Prog} {Φ Ψ : Fun}
theorem run_fnD {k : Nat} {f : Addr} {fd : FuncData} {ps : List Str} {sp : Sp} {args : Args} {pins : List (Addr × Obj)} {σ : L2.St} {H : Hp} {s : Shared} {Q : VK} {xs : List V} {us : List Value} (F : FnOk X.prog X.w X.K X.mg X.base (L2.CX X.prog X.w) k f fd ps sp)
    (hr : Room k X.A) (tk : Takes X W) (I : Inv X pins σ H s) (r : Vals xs us) (hb : BindsTo s fd args (ps.zip us)) (h : sp xs H Q fun c d H' => W c d σ H') : wpAny (model X.prog X.w) X.A (call (.ref f) args.pos args.kw) (EP X pins σ Q) X.xe s := by
  refine wpAny_call (codeAny_mono (F.run X.A X.stack s H args us xs Q _ hr I.env0 hb r h) fun r s' hq => ?_)
  cases r with
  | error e => exact tk e s' (XE.of_call I (fun cls d H' h => h) hq)
  | ok fl =>
    cases fl with
    | ret u => exact I.after hq
    | next => exact False.elim hq
    | brk => exact False.elim hq
    | cont => exact False.elim hq
theorem rep_vals_len {G : Gw} {n : Nat} {K : PySem.W.Frag} {vs : List V} {ds : List Dat} (r : RepRs K NM G n vs ds) : vs.length = ds.length := r.length
theorem RepRs.append {K : PySem.W.Frag} {G : Gw} {n : Nat} {vs ws : List V} {ds es : List Dat} (a : RepRs K NM G n vs ds) (b : RepRs K NM G n ws es) : RepRs K NM G n (vs ++ ws) (ds ++ es) := by
  induction a with
  | nil => exact b
  | cons r _ ih => exact .cons r ih
/-- the wish of a callee's error, as ours -/
theorem EX.sig {K : PySem.W.Frag} {G : Gw} {st : St} {σ : L2.St} {c fs st'} (h : EX K NM TB G st σ W c fs st') : EX K NM TB G st [] (fun c d _ H' => W c d σ H') c fs st' := fun dd H' G' gs e r a b => h dd H' G' gs e r a b
theorem spD_use {K : PySem.W.Frag} {G0 G : Gw} {H : Hp} {st0 st : St} {σ : L2.St} {Q : VK} {np : Nat} {F : List Dat → St → Res Dat} {vs : List V} {ds : List Dat} (x0 : Ext G0 st0 G st) (hl : vs.length = np) (rv : RepRs K NM G st.length vs ds) (r : Rp K NM TB G H st)
    (hw : (F ds st).wp (KX K NM TB G0 st0 Q) (EX K NM TB G0 st0 σ W)) : spD K NM TB np F vs H Q fun c d H' => W c d σ H' := by
  refine ⟨ds, st, G, hl, rv, r, ?_⟩
  cases e : F ds st with
  | ok d s =>
    rw [e] at hw
    exact fun v H' G' e r a => hw v H' G' (x0.trans e) r a.toX
  | err c fs s =>
    rw [e] at hw
    exact (EX.from x0 hw).sig
  | stuck =>
    rw [e] at hw
    exact hw
/-- a function of the module, called by its name -/
structure FnAt (X : Cx) (k : Nat) (f : Addr) (fd : FuncData) (ps : List Str) (sp : Sp) : Prop where
  ok : FnOk X.prog X.w X.K X.mg X.base (L2.CX X.prog X.w) k f fd ps sp
  plain : Plain fd.params ps
  nd : ps.Nodup
  dv : fd.defaults = .none
  keep : PySem.W.keepIn X.K (.ref f) = true
theorem de_call {k n : Nat} {f : Addr} {fd : FuncData} {ps : List Str} {x : Str} {p pos : Pos} {es : List Expr} {kws : List Keyword} {is js : List IE} (F : FnAt X k f fd ps (spD X.K NM TB ps.length (Φ n))) (hr : Room k X.A) (tk : Takes X W) (hg : L2.Gl X x) (hm : X.mg x = some (.ref f))
    (hdb : (x == ("__debug__" : Str)) = false) (ha : DA X NM TB W P Φ Ψ es is) (hkw : DK X NM TB W P Φ Ψ kws js) (ns : noStars es = true) (ka : kwAll kws = true) (hl : is.length + js.length = ps.length) (hk : kwNames kws = ps.drop is.length) {pm : List (Sum Nat Dat)}
    (hpm : ∀ ds : List Dat, ds.length = ps.length → permD pm ds = some ds) :
    DE X NM TB W P Φ Ψ (.Call (.Name x p) es kws pos) (.call n (is ++ js) pm) := by
  refine ⟨fun pins s σ H Q I ⟨δ, st, G, hE, hR, hw⟩ => ?_⟩
  refine wpAny_Call_Name_kw (L2.ld_glob I hg hm ?_ hdb)
  have hw : ((evs P Φ Ψ (is ++ js) δ st).bnd fun ds s => (opt (permD pm ds) s).bnd fun vs s => Φ n vs s).wp (KX X.K NM TB G st Q) (EX X.K NM TB G st σ W) := hw
  refine call_args F.keep ns ka ha hkw I .refl hE hR hw fun ds es st1 vs zs us ws H1 G1 s1 e1 l1 hE1 r1 x1 x2 n1 n2 hw1 I1 rv rz => ?_
  have hln : (ds ++ es).length = ps.length := by rw [List.length_append, n1, n2, hl]
  have hw1 : ((opt (permD pm (ds ++ es)) st1).bnd fun vs s => Φ n vs s).wp (KX X.K NM TB G st Q) (EX X.K NM TB G st σ W) := hw1
  rw [hpm _ hln] at hw1
  have hlu : us.length = is.length := by rw [← rv.length, x1.length, n1]
  have hlw : ws.length = js.length := by rw [← rz.length, x2.length, n2]
  have xx := x1.append x2
  have b := bind_plain (us := us) (ws := ws) F.plain F.nd F.dv (ks := kwNames kws) (by rw [hk, hlu]) (by rw [hk, List.length_drop, hlw]; omega) (by omega)
  exact run_fnD (args := ⟨us, (kwNames kws).zip ws⟩) (xs := vs ++ zs) F.ok hr tk I1 (rv.append rz) (.of_eq b) (spD_use (W := W) (σ := σ) e1 (by rw [xx.length, hln]) xx r1 hw1)
end
end Z

set_option linter.all false
set_option maxRecDepth 100000
set_option maxHeartbeats 2000000
namespace Z
open PySem PySem.Spec PyProof.Rows
open L2 (V Hp HO Key VK XK TE TT TA TS TG TGs TO TI WX Cx Inv Ends SqL SqT Same upd upd_same upd_ne ne_of ne_of_none OpR UnR CallR R2 Dp DpAll IxR SlR PE PT PW PA PS PSs PG PGs PI PO PTs PK FnOk Room Vals RelV Sp EP thn)
open L2 (Takes XE)
section
variable (K : PySem.W.Frag) (NM : Nm) (TB : Hp → Prop)
/-- J walks the data xs -/
def IsIt (F : Hp) (J : L2.It) (xs : List Dat) : Prop := ∀ (i : Nat) (H : Hp) (G : Gw) (st : St), (∀ a o, F a = some o → G.F a = some o) → Rp K NM TB G H st →
  (∀ x, xs[i]? = some x → J.go i H ∧ ∀ v H', J.yld i H v H' → ∃ G', Ext G st G' st ∧ Rp K NM TB G' H' st ∧ RepV K NM G'.F v x) ∧ (xs.length ≤ i → J.stop i H)
def tIt (m : Env → St → Res (List Dat)) (W : WX) : TI := fun σ H R => ∃ δ st G, RepE K NM G st.length σ δ ∧ Rp K NM TB G H st ∧
  (m δ st).wp (fun xs st' => ∀ H' G' J, Ext G st G' st' → Rp K NM TB G' H' st' → IsIt K NM TB G'.F J xs → R J H') (EX K NM TB G st σ W)
end
section
variable {K : PySem.W.Frag} {NM : Nm} {TB : Hp → Prop} {F : Hp}
theorem sqL_rep {G : Gw} {H : Hp} {st : St} (r : Rp K NM TB G H st) (h : ∀ a o, F a = some o → G.F a = some o) {a : Addr} {xs : List V} (q : SqL K F a xs) : SqL K H a xs := SqL_mono r.sub (SqL_mono h q)
theorem sqT_rep {G : Gw} {H : Hp} {st : St} (r : Rp K NM TB G H st) (h : ∀ a o, F a = some o → G.F a = some o) {a : Addr} {xs : List V} (q : SqT K F a xs) : SqT K H a xs := SqT_mono r.sub (SqT_mono h q)
theorem IsIt.list {a : Addr} {xs : List V} {ds : List Dat} (q : SqL K F a xs) (r : RepVs K NM F xs ds) : IsIt K NM TB F (L2.Itl K a) ds := fun i H G st hF rp => by
  have q' := sqL_rep rp hF q
  refine ⟨fun x hx => ?_, fun hi => ⟨xs, q', by rw [r.length]; exact hi⟩⟩
  obtain ⟨v, hv, rv⟩ := r.get' hx
  refine ⟨⟨xs, v, q', hv⟩, fun w H' ⟨e1, e2⟩ => ?_⟩
  subst e1
  have := e2 xs q'
  rw [hv] at this
  cases this
  exact ⟨G, .refl, rp, rv.mono hF⟩
theorem IsIt.tup {a : Addr} {xs : List V} {ds : List Dat} (q : SqT K F a xs) (r : RepVs K NM F xs ds) : IsIt K NM TB F (L2.Itt K a) ds := fun i H G st hF rp => by
  have q' := sqT_rep rp hF q
  refine ⟨fun x hx => ?_, fun hi => ⟨xs, q', by rw [r.length]; exact hi⟩⟩
  obtain ⟨v, hv, rv⟩ := r.get' hx
  refine ⟨⟨xs, v, q', hv⟩, fun w H' ⟨e1, e2⟩ => ?_⟩
  subst e1
  have := e2 xs q'
  rw [hv] at this
  cases this
  exact ⟨G, .refl, rp, rv.mono hF⟩
theorem rngD_get {i j : Int} {k : Nat} {x : Dat} (h : (rngD i j)[k]? = some x) : k < (j - i).toNat ∧ x = .int (i + k) := by
  unfold rngD at h
  rw [List.getElem?_map] at h
  by_cases hk : k < (j - i).toNat
  · rw [List.getElem?_range hk] at h
    exact ⟨hk, (Option.some.inj h).symm⟩
  · rw [List.getElem?_eq_none (by simpa using hk)] at h
    cases h
theorem rngD_len {i j : Int} : (rngD i j).length = (j - i).toNat := by unfold rngD; rw [List.length_map, List.length_range]
theorem IsIt.rng {i j : Int} : IsIt K NM TB F (L2.Itr i (j - i).toNat) (rngD i j) := fun k H G st hF rp => by
  refine ⟨fun x hx => ?_, fun hk => by rw [rngD_len] at hk; exact hk⟩
  obtain ⟨hk, rfl⟩ := rngD_get hx
  refine ⟨hk, fun w H' ⟨e1, e2⟩ => ?_⟩
  subst e1 e2
  exact ⟨G, .refl, rp, .int _⟩
theorem lay_tup (tp : TbP TB) {G : Gw} {H : Hp} {st : St} (rp : Rp K NM TB G H st) {T : Addr} {xs : List V} {ds : List Dat} (hT : H T = none) (r : RepVs K NM G.F xs ds) :
    ∃ G', Ext G st G' st ∧ Rp K NM TB G' (upd H T (.tup xs)) st ∧ RepV K NM G'.F (.ref T) (.tup ds) := by
  obtain ⟨e, r'⟩ := rp.lay tp (o := .tup xs) hT
  exact ⟨_, e, r', .tup (.inl (.inl put_at)) (r.mono e.sub)⟩
theorem IsIt.enum (tp : TbP TB) {a : Addr} {xs : List V} {ds : List Dat} (q : SqL K F a xs) (r : RepVs K NM F xs ds) : IsIt K NM TB F (L2.Ite K a) (ds.zipIdx.map fun p => .tup [.int p.2, p.1]) := fun i H G st hF rp => by
  have q' := sqL_rep rp hF q
  refine ⟨fun x hx => ?_, fun hi => ⟨xs, q', by rw [List.length_map, List.length_zipIdx] at hi; rw [r.length]; exact hi⟩⟩
  rw [List.getElem?_map, List.getElem?_zipIdx] at hx
  cases hd : ds[i]? with
  | none => rw [hd] at hx; cases hx
  | some d =>
    rw [hd] at hx
    obtain ⟨v, hv, rv⟩ := r.get' hd
    refine ⟨⟨xs, v, q', hv⟩, fun w H' ⟨T, x', e1, e2, e3, e4⟩ => ?_⟩
    subst e1 e3
    have := e4 xs q'
    rw [hv] at this
    cases this
    obtain ⟨G', h1, h2, h3⟩ := lay_tup tp rp e2 (.cons (.int (i : Nat)) (.cons (rv.mono hF) .nil))
    refine ⟨G', h1, h2, ?_⟩
    have : x = .tup [.int (i : Nat), d] := by
      have := Option.some.inj hx
      rw [← this]
      simp
    rw [this]
    exact h3
theorem zip_get {xs ys : List Dat} {i : Nat} {p : Dat × Dat} (h : (xs.zip ys)[i]? = some p) : xs[i]? = some p.1 ∧ ys[i]? = some p.2 := by
  rw [List.getElem?_zip_eq_some] at h
  exact h
theorem IsIt.zipL (tp : TbP TB) {a b : Addr} {xs ys : List V} {ds es : List Dat} (q : SqL K F a xs) (q2 : SqL K F b ys) (r : RepVs K NM F xs ds) (r2 : RepVs K NM F ys es) :
    IsIt K NM TB F (L2.Itz K a b) ((ds.zip es).map fun p => .tup [p.1, p.2]) := fun i H G st hF rp => by
  have q' := sqL_rep rp hF q
  have q2' := sqL_rep rp hF q2
  refine ⟨fun x hx => ?_, fun hi => ⟨xs, ys, q', q2', by
    rw [List.length_map, List.length_zip] at hi
    have h1 := r.length
    have h2 := r2.length
    omega⟩⟩
  rw [List.getElem?_map] at hx
  cases hd : (ds.zip es)[i]? with
  | none => rw [hd] at hx; cases hx
  | some d =>
    rw [hd] at hx
    obtain ⟨h1, h2⟩ := zip_get hd
    obtain ⟨v, hv, rv⟩ := r.get' h1
    obtain ⟨v2, hv2, rv2⟩ := r2.get' h2
    refine ⟨⟨xs, ys, v, v2, q', q2', hv, hv2⟩, fun w H' ⟨T, x', y', e1, e2, e3, e4, e5⟩ => ?_⟩
    subst e1 e3
    have := e4 xs q'
    rw [hv] at this
    cases this
    have := e5 ys q2'
    rw [hv2] at this
    cases this
    obtain ⟨G', h1, h2, h3⟩ := lay_tup tp rp e2 (.cons (rv.mono hF) (.cons (rv2.mono hF) .nil))
    refine ⟨G', h1, h2, ?_⟩
    have : x = .tup [d.1, d.2] := (Option.some.inj hx).symm
    rw [this]
    exact h3
theorem IsIt.zipT (tp : TbP TB) {a b : Addr} {xs ys : List V} {ds es : List Dat} (q : SqT K F a xs) (q2 : SqT K F b ys) (r : RepVs K NM F xs ds) (r2 : RepVs K NM F ys es) :
    IsIt K NM TB F (RZ.ItzT K a b) ((ds.zip es).map fun p => .tup [p.1, p.2]) := fun i H G st hF rp => by
  have q' := sqT_rep rp hF q
  have q2' := sqT_rep rp hF q2
  refine ⟨fun x hx => ?_, fun hi => ⟨xs, ys, q', q2', by
    rw [List.length_map, List.length_zip] at hi
    have h1 := r.length
    have h2 := r2.length
    omega⟩⟩
  rw [List.getElem?_map] at hx
  cases hd : (ds.zip es)[i]? with
  | none => rw [hd] at hx; cases hx
  | some d =>
    rw [hd] at hx
    obtain ⟨h1, h2⟩ := zip_get hd
    obtain ⟨v, hv, rv⟩ := r.get' h1
    obtain ⟨v2, hv2, rv2⟩ := r2.get' h2
    refine ⟨⟨xs, ys, v, v2, q', q2', hv, hv2⟩, fun w H' ⟨T, x', y', e1, e2, e3, e4, e5⟩ => ?_⟩
    subst e1 e3
    have := e4 xs q'
    rw [hv] at this
    cases this
    have := e5 ys q2'
    rw [hv2] at this
    cases this
    obtain ⟨G', h1, h2, h3⟩ := lay_tup tp rp e2 (.cons (rv.mono hF) (.cons (rv2.mono hF) .nil))
    refine ⟨G', h1, h2, ?_⟩
    have : x = .tup [d.1, d.2] := (Option.some.inj hx).symm
    rw [this]
    exact h3
end
/-- a list or a tuple, walked -/
def iSeq (K : PySem.W.Frag) (tl : TE) : TI := fun σ H R => tl σ H fun x H1 => ∃ a, x = .ref a ∧ ((∃ xs, SqL K H1 a xs ∧ R (L2.Itl K a) H1) ∨ (∃ xs, SqT K H1 a xs ∧ R (L2.Itt K a) H1))
theorem pi_seq {X : Cx} {tg l : Expr} {tl : TE} (hl : PE X l tl) : PI X tg l (iSeq X.K tl) := by
  refine ⟨fun pins s σ H R I h => ?_⟩
  refine thn (hl.run pins s σ H _ I h) fun v s1 ⟨x, H1, I1, r1, q1⟩ => ?_
  obtain ⟨a, e, q1⟩ := q1
  subst e
  cases r1
  rcases q1 with ⟨xs, hq, q⟩ | ⟨xs, hq, q⟩
  · obtain ⟨its, rv, p, hz⟩ := I1.list hq
    refine wpAny_pyIter_list p.isList ?_
    refine ⟨s1.heap.objs.size, [s1.heap.objs.size], _, _, H1, rfl, I1.kept (t' := s1.toks) fun b o e => Heap.get?_push_of_some _ e, L2.turn_list a _, ⟨_, Heap.get?_push_size _ rfl, rfl, rfl⟩, fun b hb => ?_, q⟩
    have e : b = s1.heap.objs.size := by simpa using hb
    subst e
    exact I1.fpOk (Nat.le_refl _) (I1.hok.fresh (Nat.le_refl _))
  · obtain ⟨its, rv, p, hz⟩ := I1.tuple hq
    refine wpAny_pyIter_tuple (show s1.heap.IsTuple a its.toArray from p) ?_
    refine ⟨s1.heap.objs.size, [s1.heap.objs.size], _, _, H1, rfl, I1.kept (t' := s1.toks) fun b o e => Heap.get?_push_of_some _ e, L2.turn_tuple a _, ⟨_, Heap.get?_push_size _ rfl, rfl, rfl⟩, fun b hb => ?_, q⟩
    have e : b = s1.heap.objs.size := by simpa using hb
    subst e
    exact I1.fpOk (Nat.le_refl _) (I1.hok.fresh (Nat.le_refl _))
theorem PI.imp' {X : Cx} {tg e : Expr} {t t' : TI} (h : PI X tg e t) (i : ∀ σ H Q, t' σ H Q → t σ H Q) : PI X tg e t' := ⟨fun pins s σ H Q I q => h.run pins s σ H Q I (i σ H Q q)⟩
section
variable {X : Cx} {NM : Nm} {TB : Hp → Prop} {W : WX} {P : Prog} {Φ Ψ : Fun} {a b c tg : Expr} {ia ib ic : IE} {p pos tpos : Pos} {elts : List Expr} {kk : Nat}
abbrev DI (X : Cx) (NM : Nm) (TB : Hp → Prop) (W : WX) (P : Prog) (Φ Ψ : Fun) (tg e : Expr) (i : It) : Prop := PI X tg e (tIt X.K NM TB (evI P Φ Ψ i) W)
theorem seq_rep {K : PySem.W.Frag} {F : Hp} {v : V} {d : Dat} {xs : List Dat} (x : RepV K NM F v d) (h : seqOf d = some xs) : ∃ a vs, v = .ref a ∧ RepVs K NM F vs xs ∧ (SqL K F a vs ∨ SqT K F a vs) := by
  cases x with
  | lst e r => cases h; exact ⟨_, _, rfl, r, .inl (.inl (.inl e))⟩
  | tup e r => cases h; exact ⟨_, _, rfl, r, .inr e⟩
  | rol e => cases h; exact ⟨_, _, rfl, RepVs.ints _, .inl e⟩
  | _ => cases h
theorem di_val (ha : DE X NM TB W P Φ Ψ a ia) : DI X NM TB W P Φ Ψ tg a (.val ia) := by
  refine PI.imp' (pi_seq ha) fun σ H R ⟨δ, st, G, hE, hR, hw⟩ => ?_
  refine seqS .refl hE hR hw fun d st1 v H1 G1 e1 _ hE1 r1 x1 hw1 => ?_
  obtain ⟨xs, hx, q⟩ := wp_opt hw1
  obtain ⟨a, vs, rfl, rv, q2⟩ := seq_rep x1 hx
  rcases q2 with q2 | q2
  · exact ⟨a, rfl, .inl ⟨vs, SqL_mono r1.sub q2, q _ _ _ e1 r1 (.list q2 rv)⟩⟩
  · exact ⟨a, rfl, .inr ⟨vs, SqT_mono r1.sub q2, q _ _ _ e1 r1 (.tup q2 rv)⟩⟩
theorem rngOk_iff {j : Int} (h : rngOk j = true) : -(2 ^ 62) ≤ j ∧ j < 2 ^ 62 := of_decide_eq_true h
theorem di_rng1 (hg : L2.Gl X "range") (hm : X.mg "range" = none) (ha : DE X NM TB W P Φ Ψ a ia) (hs : starEach [a] X.env = [(false, eval a X.env)]) : DI X NM TB W P Φ Ψ tg (.Call (.Name "range" p) [a] [] pos) (.rng1 ia) := by
  refine PI.imp' (L2.pi_range1 hg hm (L2.pa_cons ha L2.pa_nil hs) hs) fun σ H R ⟨δ, st, G, hE, hR, hw⟩ => ?_
  refine seqD .refl hE hR hw fun x st1 v H1 G1 e1 _ hE1 r1 x1 hw1 => ?_
  cases x with
  | int j =>
    by_cases hj : rngOk j = true
    · have hw1 : ((if rngOk j = true then Res.ok (rngD 0 j) st1 else .stuck) : Res (List Dat)).wp _ _ := hw1
      rw [if_pos hj] at hw1
      obtain ⟨h1, h2⟩ := rngOk_iff hj
      refine ⟨j, by rw [rx_int x1], h1, h2, ?_⟩
      have := hw1 H1 G1 _ e1 r1 (IsIt.rng (i := 0) (j := j))
      rw [Int.sub_zero] at this
      exact this
    · have hw1 : ((if rngOk j = true then Res.ok (rngD 0 j) st1 else .stuck) : Res (List Dat)).wp _ _ := hw1
      rw [if_neg hj] at hw1
      exact hw1.elim
  | _ => exact hw1.elim
theorem di_rng2 (hg : L2.Gl X "range") (hm : X.mg "range" = none) (ha : DE X NM TB W P Φ Ψ a ia) (hb : DE X NM TB W P Φ Ψ b ib) (hs : starEach [a, b] X.env = [(false, eval a X.env), (false, eval b X.env)]) (hs2 : starEach [b] X.env = [(false, eval b X.env)]) :
    DI X NM TB W P Φ Ψ tg (.Call (.Name "range" p) [a, b] [] pos) (.rng2 ia ib) := by
  refine PI.imp' (L2.pi_range2 hg hm (L2.pa_cons ha (L2.pa_cons hb L2.pa_nil hs2) (by rw [hs, hs2])) hs hs2) fun σ H R ⟨δ, st, G, hE, hR, hw⟩ => ?_
  refine seqD .refl hE hR hw fun x st1 v H1 G1 e1 _ hE1 r1 x1 hw1 => ?_
  refine seqD e1 hE1 r1 hw1 fun y st2 u H2 G2 e2 l2 hE2 r2 x2 hw2 => ?_
  cases x with
  | int i =>
    cases y with
    | int j =>
      by_cases hj : (rngOk i && rngOk j) = true
      · have hw2 : ((if (rngOk i && rngOk j) = true then Res.ok (rngD i j) st2 else .stuck) : Res (List Dat)).wp _ _ := hw2
        rw [if_pos hj] at hw2
        rw [Bool.and_eq_true] at hj
        obtain ⟨h1, h2⟩ := rngOk_iff hj.1
        obtain ⟨h3, h4⟩ := rngOk_iff hj.2
        exact ⟨i, j, by rw [rx_int x1, rx_int x2], ⟨h1, h2, h3, h4⟩, hw2 H2 G2 _ e2 r2 (IsIt.rng (i := i) (j := j))⟩
      · have hw2 : ((if (rngOk i && rngOk j) = true then Res.ok (rngD i j) st2 else .stuck) : Res (List Dat)).wp _ _ := hw2
        rw [if_neg hj] at hw2
        exact hw2.elim
    | _ => exact hw2.elim
  | _ => exact hw2.elim
theorem di_enum (tp : TbP TB) (hg : L2.Gl X "enumerate") (hm : X.mg "enumerate" = none) (ha : DE X NM TB W P Φ Ψ a ia) (hs : starEach [a] X.env = [(false, eval a X.env)]) : DI X NM TB W P Φ Ψ (.Tuple elts kk tpos) (.Call (.Name "enumerate" p) [a] [] pos) (.enum ia) := by
  refine PI.imp' (L2.pi_enum hg hm (L2.pa_cons ha L2.pa_nil hs) hs) fun σ H R ⟨δ, st, G, hE, hR, hw⟩ => ?_
  refine seqS .refl hE hR hw fun d st1 v H1 G1 e1 _ hE1 r1 x1 hw1 => ?_
  cases x1 with
  | lst e r => exact ⟨_, _, rfl, .inl (.inl (r1.sub _ _ e)), hw1 _ _ _ e1 r1 (.enum tp (.inl (.inl e)) r)⟩
  | _ => exact hw1.elim
end
end Z

set_option linter.all false
set_option maxRecDepth 100000
set_option maxHeartbeats 2000000
namespace Z
open PySem PySem.Spec PyProof.Rows
open L2 (V Hp HO Key VK XK TE TT TA TS TG TGs TO TI WX Cx Inv Ends SqL SqT Same upd upd_same upd_ne ne_of ne_of_none OpR UnR CallR R2 Dp DpAll IxR SlR PE PT PW PA PS PSs PG PGs PI PO PTs PK FnOk Room Vals RelV Sp EP thn)
open L2 (Takes XE CXT Env0 ObjOk FnScope)
structure StarP (p : Arguments) (pf : List Str) (pv : Str) : Prop where
  po : p.posonlyargs = []
  ar : p.args.map (·.arg) = pf
  ko : p.kwonlyargs = []
  va : ∃ a, p.vararg = some a ∧ a.arg = pv
  ka : p.kwarg = none
theorem look_zip' {α : Type} : ∀ {ps : List Str} {us rest : List α}, ps.Nodup → us.length = ps.length → ps.filterMap (fun n => ((ps.zip (us ++ rest)).lookup n).map (n, ·)) = ps.zip us := fun {ps us rest} nd h => by
  have e : ps.zip (us ++ rest) = ps.zip us := by
    have := List.zip_append (l₁ := ps) (r₁ := ([] : List Str)) (l₂ := us) (r₂ := rest) h.symm
    rw [List.append_nil] at this
    rw [this, List.zip_nil_left, List.append_nil]
  rw [e]
  exact look_zip nd h
theorem bind_star {fd : FuncData} {pf : List Str} {pv : Str} {us rest : List Value} (hp : StarP fd.params pf pv) (nd : pf.Nodup) (hd : fd.defaults = .none) (hl : us.length = pf.length) :
    bindArgs fd ⟨us ++ rest, []⟩ = (newTuple rest >>= fun t => pure (pf.zip us ++ [(pv, t)])) := by
  have h1 : seqItems? fd.defaults = pure none := by rw [hd]; rfl
  have hlook := look_zip' (rest := rest) nd hl
  obtain ⟨a, va, ea⟩ := hp.va
  have hmiss : pf.filter (fun n => ((pf.zip (us ++ rest)).lookup n).isNone) = [] := by
    rw [List.filter_eq_nil_iff]
    intro n m
    have hn : n ∈ (pf.zip (us ++ rest)).map (·.1) := by
      rw [List.map_fst_zip (by rw [List.length_append]; omega)]
      exact m
    obtain ⟨⟨a, b⟩, m1, rfl⟩ := List.mem_map.mp hn
    obtain ⟨c, hc⟩ := L2.mem_lookup m1
    rw [hc]
    simp
  unfold bindArgs
  rw [h1]
  simp only [hp.po, hp.ar, hp.ko, va, hp.ka, List.map_nil, List.nil_append, List.append_nil, pure_bind, Option.getD_none, List.drop_nil, List.length_nil, List.forIn_nil]
  have hg : (decide ((us ++ rest).length > pf.length) && (some a).isNone) = false := by simp
  rw [hg]
  simp only [Nat.sub_zero, List.take_length, List.drop_length, List.drop_nil, List.zip_nil_right, List.forIn_nil, hmiss, pure_bind, List.isEmpty_nil, Bool.not_true, Bool.false_eq_true, if_false, hlook, ea]
  rw [← hl, List.drop_left]
theorem cxnew (P : Program) (w : World) (outer : List PySem.Env) (s : Shared) (H : Hp) (h2 : Heap) (p : Addr) (rest : List V) (E : XK) (e : Value) (s' : Shared) (kp : ∀ b o, s.heap.get? b = some o → h2.get? b = some o) (hp : s.heap.objs.size ≤ p) (hn : H p = none)
    (h : L2.CX P w outer (upd H p (.tup rest)) { s with heap := h2 } E e s') : L2.CX P w outer H s E e s' := by
  obtain ⟨a, B, H', cls, d, e1, e2, e3, u, e5, e6, e7, e8⟩ := h
  have ne : ∀ b o, s.heap.get? b = some o → b ≠ p := fun b o q => Nat.ne_of_lt (Nat.lt_of_lt_of_le (Heap.lt_size q) hp)
  refine ⟨a, B, H', cls, d, e1, e2, e3, ⟨fun b o q n hb => u.keep b o (kp b o q) (by rw [upd_ne (ne b o q)]; exact n) hb, fun b o q hb => u.slot b o (kp b o q) hb, fun b o q n => u.free b o (kp b o q) (by rw [upd_ne (ne b o q)]; exact n),
    fun b o q hb => u.there b o (kp b o q) hb, fun b xs q => u.tups b xs (by rw [upd_ne (ne_of_none q hn)]; exact q), fun b o xs q => u.frzs b o xs (by rw [upd_ne (ne_of_none q hn)]; exact q), fun b ps q => u.tbls b ps (by rw [upd_ne (ne_of_none q hn)]; exact q)⟩, e5, e6, e7, e8⟩
/-- a def called with positional values alone -/
abbrev FnR (P : Program) (w : World) (K : PySem.W.Frag) (mg : Str → Option Value) (base : Heap) (CX : CXT) (k : Nat) (f : Addr) (sp : Sp) : Prop :=
  ∀ (A : Around) (outer : List PySem.Env) (s : Shared) (H : Hp) (us : List Value) (vs : List V) (Q : VK) (E : XK), Room k A → Env0 P w K mg base A outer s H → Vals vs us → sp vs H Q E → codeAny (model P w) A (.call (.ref f) ⟨us, []⟩) (L2.CR CX outer P w H s Q E) s
theorem vals_split {vs ws : List V} {us : List Value} (r : Vals (vs ++ ws) us) : ∃ u1 u2, us = u1 ++ u2 ∧ Vals vs u1 ∧ Vals ws u2 := by
  induction vs generalizing us with
  | nil => exact ⟨[], us, rfl, .nil, r⟩
  | cons v vs ih =>
    cases r with
    | cons x y =>
      obtain ⟨u1, u2, rfl, r1, r2⟩ := ih y
      exact ⟨_ :: u1, u2, rfl, .cons x r1, r2⟩
theorem fn_ofVn {P : Program} {w : World} {K : PySem.W.Frag} {mg : Str → Option Value} {base : Heap} {k : Nat} {f : Addr} {name qual : Str} {params : Arguments} {body : List Stmt} {scope : Scope} {dV kV doc pm cdv ct oc : Value} {an od : Option Addr}
    {osl : Array (Option Value)} {N pf : List Str} {pv : Str} {sp : Sp} (lk : K.lookup f = some ⟨oc, od, .func (PySem.W.fnOf name qual params body scope dV kV doc pm an cdv ct), osl⟩) (hcd : PySem.W.codeIn K cdv qual = true) (S : FnScope N (pf ++ [pv]) scope)
    (hp : StarP params pf pv) (nd : pf.Nodup) (hd : dV = .none)
    (hbody : ∀ (A : Around) (outer : List PySem.Env) (s : Shared) (H : Hp) (vs : List V) (Q : VK) (E : XK), Room k (A.deeper (envOfC qual scope s.heap.objs.size f cdv)) → sp vs H Q E →
      ∃ t, PSs (L2.cxOf (L2.CX P w) P w K mg base N qual scope f cdv A outer s H E) body t ∧ t { nx := fun _ H' => Q .non H', rt := Q } (L2.start N vs) H) :
    FnR P w K mg base (L2.CX P w) (k + 1) f (fun vs H Q E => ∃ v rest, vs = v ++ rest ∧ v.length = pf.length ∧ rest.length ≤ sizeLine ∧ ∀ p, H p = none → sp (v ++ [.ref p]) (upd H p (.tup rest)) Q E) := by
  intro A outer s H us vs Q E hr e0 r hsp
  obtain ⟨v, rest, ev, hlv, hl, hq⟩ := hsp
  subst ev
  obtain ⟨u, ur, eu, rv, rr⟩ := vals_split r
  subst eu
  have hl' : ur.length ≤ sizeLine := by rw [← rr.length]; exact hl
  have hlu : u.length = pf.length := by rw [← rv.length]; exact hlv
  have KX : K.In s.heap := e0.mod.kin.keeps fun b o e => (e0.bs b o e).1
  have hn : H s.heap.objs.size = none := e0.hok.fresh (Nat.le_refl _)
  have hp' := hq s.heap.objs.size hn
  have kp : ∀ b o, s.heap.get? b = some o → (s.heap.push ({ cls := .type "tuple", data := .seq ur.toArray } : Obj)).get? b = some o := fun b o e => Heap.get?_push_of_some _ e
  have new : ObjOk P w (upd H s.heap.objs.size (.tup rest)) (s.heap.push ({ cls := .type "tuple", data := .seq ur.toArray } : Obj)) s.heap.objs.size (.tup rest) :=
    ⟨hl, ur, rr, ⟨_, Heap.get?_push_size _ rfl, rfl, _, rfl⟩⟩
  have hok2 := e0.hok.laid kp (Nat.le_refl _) new
  have un : L2.Un (L2.frs outer) [] H (upd H s.heap.objs.size (.tup rest)) s.heap (s.heap.push ({ cls := .type "tuple", data := .seq ur.toArray } : Obj)) := L2.Un.laid kp (Nat.le_refl _) hn
  have e2 : Env0 P w K mg base A outer { s with heap := s.heap.push ({ cls := .type "tuple", data := .seq ur.toArray } : Obj) } (upd H s.heap.objs.size (.tup rest)) := by
    refine ⟨e0.frames, e0.mod, fun b o e => ⟨kp b o (e0.bs b o e).1, ?_⟩, ?_, Heap.FunFrames.of_keeps (fun b o e _ => ⟨o, kp b o e, rfl⟩) e0.funs, fun b hb' => ?_, hok2, e0.bare⟩
    · rw [upd_ne (Nat.ne_of_lt (Heap.lt_size (e0.bs b o e).1))]
      exact (e0.bs b o e).2
    · show base.objs.size ≤ (s.heap.push _).objs.size
      rw [Heap.size_push]
      exact Nat.le_succ_of_le e0.bsz
    · obtain ⟨_, o, ho, _⟩ := e0.funs.mem hb'
      rw [upd_ne (Nat.ne_of_lt (Heap.lt_size ho))]
      exact e0.frf b hb'
  have lim : (s.heap.push ({ cls := .type "tuple", data := .seq ur.toArray } : Obj)).NoLimit := e0.mod.nolimit.keeps fun b o e => (e2.bs b o e).1
  have hzip : (pf ++ [pv]).zip (u ++ [Value.ref s.heap.objs.size]) = pf.zip u ++ [(pv, Value.ref s.heap.objs.size)] := by
    rw [List.zip_append hlu.symm]; rfl
  have hkind : ∀ y ∈ pf.zip u ++ [(pv, Value.ref s.heap.objs.size)], scope.names.lookup y.1 = some .local ∨
      (scope.names.lookup y.1 = some .cell ∧ ((cellsFrom ((s.heap.push ({ cls := .type "tuple", data := .seq ur.toArray } : Obj)).objs.size + 1) scope.names []).lookup y.1).isSome = true) := fun y hy => by
    rw [← hzip] at hy
    rcases S.par y.1 (List.of_mem_zip hy).1 with q | q
    · exact .inl q
    · exact .inr ⟨q, PySem.W.cellsFrom_some _ _ _ (.inl q)⟩
  refine codeAny_call_function hr.depth (KX _ _ lk) rfl S.co S.gen rfl (PySem.W.codeRec_of KX hcd) ?_
  rw [bind_star (pf := pf) (pv := pv) hp nd hd hlu]
  refine wpAny_bind (wpAny_newTuple (wpAny_pure ?_) hl')
  refine wpAny_newFunctionEnv_cells (s := { s with heap := s.heap.push ({ cls := .type "tuple", data := .seq ur.toArray } : Obj) }) S.kind hkind fun env he s1 x => ?_
  subst he
  refine ⟨lim.keeps x.toInCall.keep, codeAny_func ?_⟩
  obtain ⟨t, ht, hq'⟩ := hbody A outer { s with heap := s.heap.push ({ cls := .type "tuple", data := .seq ur.toArray } : Obj) } (upd H s.heap.objs.size (.tup rest)) (v ++ [.ref s.heap.objs.size]) Q E (hr.deeper _) hp'
  have r2 : Vals (v ++ [V.ref s.heap.objs.size]) (u ++ [Value.ref s.heap.objs.size]) := rv.append (.cons rfl .nil)
  rw [← hzip] at x
  have I : Inv (L2.cxOf (L2.CX P w) P w K mg base N qual scope f cdv A outer { s with heap := s.heap.push ({ cls := .type "tuple", data := .seq ur.toArray } : Obj) } (upd H s.heap.objs.size (.tup rest)) E) [] (L2.start N (v ++ [.ref s.heap.objs.size])) (upd H s.heap.objs.size (.tup rest)) s1 :=
    L2.inv_start S hr.hd e2 (by simp [hlv]) r2 x
  refine wpAny_mono (ht.run [] s1 _ _ _ I hq') (fun fl s' hs => ?_) fun e s' hs => ?_
  · have fin : ∀ {σ' : L2.St} {H' : Hp} {v' : V} {u' : Value}, Inv (L2.cxOf (L2.CX P w) P w K mg base N qual scope f cdv A outer { s with heap := s.heap.push ({ cls := .type "tuple", data := .seq ur.toArray } : Obj) } (upd H s.heap.objs.size (.tup rest)) E) [] σ' H' s' → RelV v' u' → Q v' H' →
        L2.CE outer P w H s Q u' s' := fun {σ' H' v' u'} J rv' q => ⟨v', H', J.os, J.bare, un.trans J.base, J.hok, rv', q⟩
    cases fl with
    | ret u' =>
      obtain ⟨v', σ', H', J, rv', q⟩ := hs
      exact fin J rv' q
    | next =>
      obtain ⟨σ', H', J, q⟩ := hs
      exact fin (v' := V.non) (u' := Value.none) J rfl q
    | brk =>
      obtain ⟨_, _, _, q⟩ := hs
      exact False.elim q
    | cont =>
      obtain ⟨_, _, _, q⟩ := hs
      exact False.elim q
  · exact wpAny_mono hs (fun _ s'' z => cxnew P w outer s H _ _ rest E e s'' kp (Nat.le_refl _) hn z) fun e' s'' z => cxnew P w outer s H _ _ rest E e' s'' kp (Nat.le_refl _) hn z
/-- a V def's promise: the fixed values, then the rest -/
def spV (K : PySem.W.Frag) (NM : Nm) (TB : Hp → Prop) (nf : Nat) (F : List Dat → St → Res Dat) : Sp := fun vs H Q E => ∃ ds rs st G v rest, vs = v ++ rest ∧ v.length = nf ∧ RepRs K NM G st.length v ds ∧ RepVs K NM G.F rest rs ∧ rest.length ≤ sizeLine ∧ Rp K NM TB G H st ∧
  (F (ds ++ [.tup rs]) st).wp (KR K NM TB G st Q) (EX K NM TB G st [] fun c d _ H' => E c d H')
theorem RepRs.extW {K : PySem.W.Frag} {NM : Nm} {G G' : Gw} {st st' : St} {vs : List V} {ds : List Dat} (e : Ext G st G' st') (r : RepRs K NM G st.length vs ds) : RepRs K NM G' st'.length vs ds := by
  induction r with
  | nil => exact .nil
  | cons a _ ih => exact .cons (a.ext e) ih
theorem spV_lay {K : PySem.W.Frag} {NM : Nm} {TB : Hp → Prop} (tp : TbP TB) {nf : Nat} {F : List Dat → St → Res Dat} {vs : List V} {H : Hp} {Q : VK} {E : XK} (h : spV K NM TB nf F vs H Q E) :
    ∃ v rest, vs = v ++ rest ∧ v.length = nf ∧ rest.length ≤ sizeLine ∧ ∀ p, H p = none → spD K NM TB (nf + 1) F (v ++ [.ref p]) (upd H p (.tup rest)) Q E := by
  obtain ⟨ds, rs, st, G, v, rest, rfl, hl, rv, rr, hz, hR, hw⟩ := h
  refine ⟨v, rest, rfl, hl, hz, fun p hp => ?_⟩
  obtain ⟨G', e, r', x⟩ := lay_tup tp hR hp rr
  refine ⟨ds ++ [.tup rs], st, G', by simp [hl], (rv.extW e).append (.cons (x.toR _) .nil), r', ?_⟩
  cases q : F (ds ++ [.tup rs]) st with
  | ok d s => rw [q] at hw; exact fun v' H' G2 e2 r2 a2 => hw v' H' G2 (e.trans e2) r2 a2
  | err c fs s => rw [q] at hw; exact EX.from (W := fun c d _ H' => E c d H') (σ := []) e hw
  | stuck => rw [q] at hw; exact hw
end Z

set_option linter.all false
set_option maxRecDepth 100000
set_option maxHeartbeats 2000000
namespace Z
open PySem PySem.Spec PyProof.Rows
open L2 (V Hp HO Key VK XK TE TT TA TS TG TGs TO TI WX Cx Inv Ends SqL SqT Same upd upd_same upd_ne ne_of ne_of_none OpR UnR CallR R2 Dp DpAll IxR SlR PE PT PW PA PS PSs PG PGs PI PO PTs PK FnOk Room Vals RelV Sp EP thn)
open L2 (Takes XE)
section
variable {K : PySem.W.Frag} {NM : Nm} {TB : Hp → Prop} {G : Gw} {st : St} {n : Nat} {σ : L2.St} {δ : Env}
/-- a name set -/
theorem RepE.set (r : RepE K NM G n σ δ) {v : V} {d : Dat} (x : RepR K NM G n v d) (i : Nat) : RepE K NM G n (σ.set i (some v)) (δ.set i (some d)) := by
  refine ⟨by rw [List.length_set, List.length_set]; exact r.len, fun j e h => ?_⟩
  rcases set_get h with ⟨rfl, h2, h3⟩ | ⟨hj, h2⟩
  · cases h2
    exact ⟨v, List.getElem?_set_self (by rw [r.len]; exact h3), x⟩
  · obtain ⟨w, h4, h5⟩ := r.at_ j e h2
    exact ⟨w, by rw [List.getElem?_set_ne (Ne.symm hj)]; exact h4, h5⟩
theorem RepE.wipe (r : RepE K NM G n σ δ) (j : Nat) : RepE K NM G n (σ.set j none) (δ.set j none) := by
  refine ⟨by rw [List.length_set, List.length_set]; exact r.len, fun i e h => ?_⟩
  rcases set_get h with ⟨rfl, h2, h3⟩ | ⟨hj, h2⟩
  · cases h2
  · obtain ⟨w, h4, h5⟩ := r.at_ i e h2
    exact ⟨w, by rw [List.getElem?_set_ne (Ne.symm hj)]; exact h4, h5⟩
theorem RepE.wipes (r : RepE K NM G n σ δ) : ∀ vs : List Nat, RepE K NM G n (L2.wipe σ vs) (wipeE δ vs)
  | [] => r
  | v :: vs => (RepE.wipes r vs).wipe v
theorem wipe_set {σ : L2.St} {i : Nat} {v : Option V} : ∀ {vs : List Nat}, i ∈ vs → L2.wipe (σ.set i v) vs = L2.wipe σ vs
  | w :: ws, h => by
    show (L2.wipe (σ.set i v) ws).set w none = (L2.wipe σ ws).set w none
    by_cases e : i ∈ ws
    · rw [wipe_set e]
    · have hw : i = w := by
        rcases List.mem_cons.mp h with h | h
        · exact h
        · exact absurd h e
      subst hw
      have key : ∀ (ws : List Nat), i ∉ ws → L2.wipe (σ.set i v) ws = (L2.wipe σ ws).set i v := fun ws => by
        induction ws with
        | nil => intro _; rfl
        | cons u us ih =>
          intro hn
          have h1 : i ≠ u := fun e => hn (by rw [e]; exact List.mem_cons_self)
          have h2 : i ∉ us := fun m => hn (List.mem_cons_of_mem _ m)
          show (L2.wipe (σ.set i v) us).set u none = ((L2.wipe σ us).set u none).set i v
          rw [ih h2, List.set_comm _ _ h1]
      rw [key ws e, List.set_set]
def Tgt.is : Tgt → List Nat
  | .name i => [i]
  | .tup is => is
end
section
variable (K : PySem.W.Frag) (NM : Nm) (TB : Hp → Prop)
/-- a target bound to data -/
def gT (tg : Tgt) : TG := fun v σ H Q => ∃ δ st G x δ', RepE K NM G st.length σ δ ∧ Rp K NM TB G H st ∧ RepV K NM G.F v x ∧ bindT tg x δ = some δ' ∧ ∀ σ', RepE K NM G st.length σ' δ' → (∀ vs, (∀ i ∈ tg.is, i ∈ vs) → L2.wipe σ' vs = L2.wipe σ vs) → Q σ' H
end
section
variable {X : Cx} {NM : Nm} {TB : Hp → Prop} {W : WX} {P : Prog} {Φ Ψ : Fun} {a b c : Expr} {ia ib ic : IE} {p pos : Pos}
theorem PG.imp {tg : Expr} {t t' : TG} (h : PG X tg t) (i : ∀ v σ H Q, t' v σ H Q → t v σ H Q) : PG X tg t' := ⟨fun pins s σ H v u Q I r q => h.run pins s σ H v u Q I r (i v σ H Q q)⟩
theorem dg_name {i : Nat} {x : Str} (hN : X.N.Nodup) (hi : X.N[i]? = some x) (hx : L2.Loc X.env.scope x) (hf : X.fn x = true ∨ X.env.scope.names.lookup x = some .local) : PG X (.Name x pos) (gT X.K NM TB (.name i)) := by
  refine PG.imp (L2.pg_name hN hi hx hf) fun v σ H Q ⟨δ, st, G, x, δ', hE, hR, rx, hb, k⟩ => ?_
  cases hb
  exact k _ (hE.set (rx.toR _) i) fun vs hm => wipe_set (hm i List.mem_cons_self)
/-- names of a tuple, one after another -/
inductive Nms (X : Cx) : List Expr → List Nat → Prop
  | nil : Nms X [] []
  | cons {x : Str} {i : Nat} {pos : Pos} {es : List Expr} {is : List Nat} (hi : X.N[i]? = some x) (hx : L2.Loc X.env.scope x) (hf : X.fn x = true ∨ X.env.scope.names.lookup x = some .local) (r : Nms X es is) : Nms X (.Name x pos :: es) (i :: is)
def gTs : List Nat → TGs
  | [] => L2.gNil
  | i :: is => L2.gCons (L2.gName i) (gTs is)
theorem pgs_nms (hN : X.N.Nodup) {es : List Expr} {is : List Nat} (h : Nms X es is) : PGs X es (gTs is) := by
  induction h with
  | nil => exact L2.pgs_nil
  | cons hi hx hf _ ih => exact L2.pgs_cons (L2.pg_name hN hi hx hf) ih
theorem gTs_use : ∀ {is : List Nat} {vs : List V} {xs : List Dat} {K : PySem.W.Frag} {G : Gw} {st : St} {σ : L2.St} {δ : Env} {H : Hp} {Q : L2.St → Hp → Prop}, RepVs K NM G.F vs xs → xs.length = is.length → RepE K NM G st.length σ δ →
    (∀ σ', RepE K NM G st.length σ' ((is.zip xs).foldl (fun δ p => δ.set p.1 (some p.2)) δ) → (∀ vs, (∀ i ∈ is, i ∈ vs) → L2.wipe σ' vs = L2.wipe σ vs) → Q σ' H) → gTs is vs σ H Q
  | [], _, _, _, _, _, _, _, _, _, .nil, _, hE, k => ⟨rfl, k _ hE fun _ _ => rfl⟩
  | [], _, _, _, _, _, _, _, _, _, .cons _ _, h, _, _ => by simp at h
  | _ :: _, _, _, _, _, _, _, _, _, _, .nil, h, _, _ => by simp at h
  | i :: is, v :: vs, x :: xs, K, G, st, σ, δ, H, Q, .cons a r, h, hE, k => by
    refine ⟨v, vs, rfl, gTs_use (is := is) r (by simpa using h) (hE.set (a.toR _) i) fun σ' hE' hw => k σ' hE' fun ws hm => ?_⟩
    rw [hw ws fun j m => hm j (List.mem_cons_of_mem _ m), wipe_set (hm i List.mem_cons_self)]
theorem dg_tup {es : List Expr} {is : List Nat} {k : Nat} (hc : X.calm = true) (hN : X.N.Nodup) (h : Nms X es is) (hn : (assignEach es X.env).length = is.length) (hst : (assignEach es X.env).findIdx? (·.1) = none) : PG X (.Tuple es k pos) (gT X.K NM TB (.tup is)) := by
  refine PG.imp (L2.pg_tup hc (pgs_nms hN h) hn hst) fun v σ H Q ⟨δ, st, G, x, δ', hE, hR, rx, hb, k⟩ => ?_
  cases rx with
  | @tup a xs ds e r =>
    have hb : (if ds.length = is.length then some ((is.zip ds).foldl (fun δ p => δ.set p.1 (some p.2)) δ) else none) = some δ' := hb
    by_cases hl : ds.length = is.length
    · rw [if_pos hl] at hb
      cases hb
      exact ⟨a, xs, rfl, SqT_mono hR.sub e, by rw [r.length]; exact hl, gTs_use r hl hE k⟩
    · rw [if_neg hl] at hb
      cases hb
  | _ => cases hb
end
/-- an error's wish that does not look at the names -/
abbrev WE (E : XK) : WX := fun c d _ H => E c d H
section
variable (K : PySem.W.Frag) (NM : Nm) (TB : Hp → Prop)
def KS (G : Gw) (st : St) (D : Ends) : Fl × Env → St → Prop := fun p st' => ∀ (σ' : L2.St) (H' : Hp) (G' : Gw), Ext G st G' st' → Rp K NM TB G' H' st' → RepE K NM G' st'.length σ' p.2 → match p.1 with
  | .nx => D.nx σ' H'
  | .bk => D.bk σ' H'
  | .ct => D.ct σ' H'
  | .rt d => ∀ v, RepR K NM G' st'.length v d → D.rt v H'
def tSt (m : Env → St → REx) (E : XK) : TS := fun D σ H => ∃ δ st G, RepE K NM G st.length σ δ ∧ Rp K NM TB G H st ∧ (m δ st).wp (KS K NM TB G st D) (EX K NM TB G st [] (WE E))
end
section
variable {X : Cx} {NM : Nm} {TB : Hp → Prop} {E : XK} {P : Prog} {Φ Ψ : Fun} {a b c : Expr} {ia ib ic : IE} {p pos : Pos}
abbrev DS (X : Cx) (NM : Nm) (TB : Hp → Prop) (E : XK) (P : Prog) (Φ Ψ : Fun) (s : Stmt) (i : IS) : Prop := PS X s (tSt X.K NM TB (exS P Φ Ψ i) E)
abbrev DB (X : Cx) (NM : Nm) (TB : Hp → Prop) (E : XK) (P : Prog) (Φ Ψ : Fun) (s : List Stmt) (i : List IS) : Prop := PSs X s (tSt X.K NM TB (exB P Φ Ψ i) E)
theorem KS.from {K : PySem.W.Frag} {G G0 : Gw} {st st0 : St} {D : Ends} (x : Ext G0 st0 G st) {p st'} (h : KS K NM TB G0 st0 D p st') : KS K NM TB G st D p st' := fun σ' H' G' e => h σ' H' G' (x.trans e)
/-- go on from here -/
theorem tSt_end {K : PySem.W.Frag} {G0 G : Gw} {st0 st : St} {σ : L2.St} {H : Hp} {δ : Env} {D : Ends} {m : Env → St → REx} (e1 : Ext G0 st0 G st) (hE : RepE K NM G st.length σ δ) (r : Rp K NM TB G H st)
    (hw : (m δ st).wp (KS K NM TB G0 st0 D) (EX K NM TB G0 st0 [] (WE E))) : tSt K NM TB m E D σ H := ⟨δ, st, G, hE, r, by
  cases e : m δ st with
  | ok d s => rw [e] at hw; exact KS.from e1 hw
  | err c fs s => rw [e] at hw; exact EX.from e1 hw
  | stuck => rw [e] at hw; exact hw⟩
theorem db_nil : DB X NM TB E P Φ Ψ [] [] := PSs.imp L2.pss_nil fun D σ H ⟨δ, st, G, hE, hR, hw⟩ => hw σ H G .refl hR hE
theorem db_cons {s : Stmt} {ss : List Stmt} {i : IS} {is : List IS} (h1 : DS X NM TB E P Φ Ψ s i) (h2 : DB X NM TB E P Φ Ψ ss is) : DB X NM TB E P Φ Ψ (s :: ss) (i :: is) := by
  refine PSs.imp (L2.pss_cons h1 h2) fun D σ H ⟨δ, st, G, hE, hR, hw⟩ => ?_
  refine ⟨δ, st, G, hE, hR, ?_⟩
  have hw : ((exS P Φ Ψ i δ st).bnd fun p s => match p.1 with
    | .nx => exB P Φ Ψ is p.2 s
    | f => .ok (f, p.2) s).wp (KS X.K NM TB G st D) (EX X.K NM TB G st [] (WE E)) := hw
  cases e : exS P Φ Ψ i δ st with
  | ok q s1 =>
    rw [e] at hw
    obtain ⟨f, δ1⟩ := q
    intro σ' H' G' e1 r1 hE1
    cases f with
    | nx => exact tSt_end e1 hE1 r1 hw
    | bk => exact hw σ' H' G' e1 r1 hE1
    | ct => exact hw σ' H' G' e1 r1 hE1
    | rt d => exact hw σ' H' G' e1 r1 hE1
  | err c fs s => rw [e] at hw; exact hw
  | stuck => rw [e] at hw; exact hw
/-- a docstring: nothing -/
theorem db_doc {x : Str} {j : Nat} {p1 p2 : Pos} {ss : List Stmt} {is : List IS} (h : DB X NM TB E P Φ Ψ ss is) : DB X NM TB E P Φ Ψ (.Expr (.Constant (.str x) j p1) p2 :: ss) is :=
  PSs.imp (L2.pss_cons L2.ps_doc h) fun _ _ _ h => h
theorem ds_pass : DS X NM TB E P Φ Ψ (.Pass pos) .pass := PS.imp L2.ps_pass fun D σ H ⟨δ, st, G, hE, hR, hw⟩ => hw σ H G .refl hR hE
theorem ds_brk : DS X NM TB E P Φ Ψ (.Break pos) .brk := PS.imp L2.ps_break fun D σ H ⟨δ, st, G, hE, hR, hw⟩ => hw σ H G .refl hR hE
theorem ds_cnt : DS X NM TB E P Φ Ψ (.Continue pos) .cnt := PS.imp L2.ps_continue fun D σ H ⟨δ, st, G, hE, hR, hw⟩ => hw σ H G .refl hR hE
theorem ds_retN : DS X NM TB E P Φ Ψ (.Return none pos) .retN := PS.imp L2.ps_retN fun D σ H ⟨δ, st, G, hE, hR, hw⟩ => hw σ H G .refl hR hE .non (RepV.toR .non _)
theorem ds_expr (he : DE X NM TB (WE E) P Φ Ψ a ia) (hs : swapsWith a none pos.line X.env = pure false) : DS X NM TB E P Φ Ψ (.Expr a pos) (.expr ia) := by
  refine PS.imp (L2.ps_expr he hs) fun D σ H ⟨δ, st, G, hE, hR, hw⟩ => ?_
  exact seqD (W := WE E) .refl hE hR hw fun x st1 v H1 G1 e1 _ hE1 r1 x1 hw1 => hw1 σ H1 G1 e1 r1 hE1
theorem ds_ret {lv : Bool} (he : DE X NM TB (WE E) P Φ Ψ a ia) : DS X NM TB E P Φ Ψ (.Return (some a) pos) (.ret lv ia) := by
  refine PS.imp (L2.ps_ret he) fun D σ H ⟨δ, st, G, hE, hR, hw⟩ => ?_
  refine seqD (W := WE E) .refl hE hR hw fun x st1 v H1 G1 e1 _ hE1 r1 x1 hw1 => ?_
  cases lv with
  | true =>
    obtain ⟨d, st2, G2, q, e2, r2, x2⟩ := r1.liveX x1
    have hw1 : ((live x st1).bnd fun d s => .ok (Fl.rt d, δ) s).wp (KS X.K NM TB G st D) (EX X.K NM TB G st [] (WE E)) := hw1
    rw [q] at hw1
    exact hw1 σ H1 G2 (e1.trans e2) r2 (hE1.ext e2) v x2
  | false =>
    obtain ⟨d, st2, G2, q, e2, r2, x2⟩ := r1.settleX x1
    have hw1 : ((settle x st1).bnd fun d s => .ok (Fl.rt d, δ) s).wp (KS X.K NM TB G st D) (EX X.K NM TB G st [] (WE E)) := hw1
    rw [q] at hw1
    exact hw1 σ H1 G2 (e1.trans e2) r2 (hE1.ext e2) v (x2.toR _)
theorem ds_if {t : IT} {ss us : List Stmt} {is js : List IS} (hc : DT X NM TB (WE E) P Φ Ψ a t) (h1 : DB X NM TB E P Φ Ψ ss is) (h2 : DB X NM TB E P Φ Ψ us js) : DS X NM TB E P Φ Ψ (.If a ss us pos) (.ifs t is js) := by
  refine PS.imp (L2.ps_if hc h1 h2) fun D σ H ⟨δ, st, G, hE, hR, hw⟩ => ?_
  refine seqT (W := WE E) .refl hE hR hw fun k st1 H1 G1 e1 _ hE1 r1 hw1 => ?_
  cases k with
  | true => exact L2.iteT (tSt_end e1 hE1 r1 hw1)
  | false => exact L2.iteF (tSt_end e1 hE1 r1 hw1)
/-- name = value -/
theorem asg_use {lv : Bool} {i : Nat} {δ : Env} {st st1 : St} {G G1 : Gw} {σ : L2.St} {H1 : Hp} {D : Ends} {x : Dat} {v : V} (e1 : Ext G st G1 st1) (hE1 : RepE X.K NM G1 st1.length σ δ) (r1 : Rp X.K NM TB G1 H1 st1) (x1 : RepX X.K NM G1 H1 st1 v x)
    (hw1 : ((if lv = true then live x st1 else .ok (raw x) st1).bnd fun d s => .ok (Fl.nx, δ.set i (some d)) s).wp (KS X.K NM TB G st D) (EX X.K NM TB G st [] (WE E))) : D.nx (σ.set i (some v)) H1 := by
  cases lv with
  | true =>
    obtain ⟨d, st2, G2, q, e2, r2, x2⟩ := r1.liveX x1
    have hw1 : ((live x st1).bnd fun d s => .ok (Fl.nx, δ.set i (some d)) s).wp (KS X.K NM TB G st D) (EX X.K NM TB G st [] (WE E)) := hw1
    rw [q] at hw1
    exact hw1 _ H1 G2 (e1.trans e2) r2 ((hE1.ext e2).set x2 i)
  | false =>
    obtain ⟨G2, e2, r2, x2⟩ := r1.rawX x1
    have hw1 : ((Res.ok (raw x) st1).bnd fun d s => .ok (Fl.nx, δ.set i (some d)) s).wp (KS X.K NM TB G st D) (EX X.K NM TB G st [] (WE E)) := hw1
    exact hw1 _ H1 G2 (e1.trans e2) r2 ((hE1.ext e2).set x2 i)
theorem ds_set {lv : Bool} {i : Nat} {x : Str} {p' : Pos} (hN : X.N.Nodup) (hi : X.N[i]? = some x) (hx : L2.Loc X.env.scope x) (hf : X.fn x = true ∨ X.env.scope.names.lookup x = some .local) (he : DE X NM TB (WE E) P Φ Ψ a ia) (hs : swapsWith a (some (.Name x p')) pos.line X.env = pure false) :
    DS X NM TB E P Φ Ψ (.Assign [.Name x p'] a pos) (.asg i lv ia) := by
  refine PS.imp (L2.ps_set hN hi hx he hs hf) fun D σ H ⟨δ, st, G, hE, hR, hw⟩ => ?_
  exact seqD (W := WE E) .refl hE hR hw fun x st1 v H1 G1 e1 _ hE1 r1 x1 hw1 => asg_use e1 hE1 r1 x1 hw1
/-- a, b = value -/
theorem ds_setT {is : List Nat} {es : List Expr} {k : Nat} {p' : Pos} (hc : X.calm = true) (hN : X.N.Nodup) (h : Nms X es is) (hn : (assignEach es X.env).length = is.length) (hst : (assignEach es X.env).findIdx? (·.1) = none) (he : DE X NM TB (WE E) P Φ Ψ a ia)
    (hs : swapsWithSole [.Tuple es k p'] a pos.line X.env = pure false) (hw' : swappedStores [.Tuple es k p'] a X.env = pure none) :
    DS X NM TB E P Φ Ψ (.Assign [.Tuple es k p'] a pos) (.asgT is ia) := by
  refine PS.imp (L2.ps_asg he (dg_tup (NM := NM) (TB := TB) hc hN h hn hst) hs hw' rfl) fun D σ H ⟨δ, st, G, hE, hR, hw⟩ => ?_
  refine seqS (W := WE E) .refl hE hR hw fun x st1 v H1 G1 e1 _ hE1 r1 x1 hw1 => ?_
  obtain ⟨δ', hb, q⟩ := wp_optb hw1
  exact ⟨δ, st1, G1, x, δ', hE1, r1, x1, hb, fun σ' hE' _ => q σ' H1 G1 e1 r1 hE'⟩
end
end Z

set_option linter.all false
set_option maxRecDepth 100000
set_option maxHeartbeats 2000000
namespace Z
open PySem PySem.Spec PyProof.Rows
open L2 (V Hp HO Key VK XK TE TT TA TS TG TGs TO TI WX Cx Inv Ends SqL SqT Same upd upd_same upd_ne ne_of ne_of_none OpR UnR CallR R2 Dp DpAll IxR SlR PE PT PW PA PS PSs PG PGs PI PO PTs PK FnOk Room Vals RelV Sp EP thn)
open L2 (Takes XE)
section
variable {X : Cx} {NM : Nm} {TB : Hp → Prop} {E : XK} {P : Prog} {Φ Ψ : Fun} {a b c tg : Expr} {ia ib ic : IE} {p pos : Pos}
theorem Res.wp_bnd_ok {α β : Type} {r : Res α} {f : α → St → Res β} {K E} (h : (r.bnd f).wp K E) : r.wp (fun a s => (f a s).wp K E) E := Res.wp_bnd.mp h
/-- the next item of a loop -/
theorem drop_cons {xs : List Dat} {i : Nat} {x : Dat} (h : xs[i]? = some x) : xs.drop i = x :: xs.drop (i + 1) := by
  obtain ⟨hi, e⟩ := List.getElem?_eq_some_iff.mp h
  rw [List.drop_eq_getElem_cons hi, e]
theorem ds_for {t : Tgt} {it : It} {ss : List Stmt} {is : List IS} (hp : PassesOwn (model X.prog X.w) X.A X.env X.xe) (hc : X.calm = true) (hi : DI X NM TB (WE E) P Φ Ψ tg a it) (hg : PG X tg (gT X.K NM TB t)) (hb : DB X NM TB E P Φ Ψ ss is)
    (hs : ∀ x, foldedSetIterable a X.env x = pure x) : DS X NM TB E P Φ Ψ (.For tg a ss [] pos) (.forS t it is) := by
  refine PS.imp (L2.ps_for hp hc hi hg hb hs) fun D σ H ⟨δ, st, G, hE, hR, hw⟩ => ?_
  have hw : ((evI P Φ Ψ it δ st).bnd fun xs s => loopF (fun x δ s => (opt (bindT t x δ) s).bnd fun δ s => exB P Φ Ψ is δ s) xs δ s).wp (KS X.K NM TB G st D) (EX X.K NM TB G st [] (WE E)) := hw
  refine ⟨δ, st, G, hE, hR, ?_⟩
  cases e : evI P Φ Ψ it δ st with
  | err c fs s => rw [e] at hw; exact hw
  | stuck => rw [e] at hw; exact hw
  | ok xs st1 =>
  rw [e] at hw
  have hw : (loopF (fun x δ s => (opt (bindT t x δ) s).bnd fun δ s => exB P Φ Ψ is δ s) xs δ st1).wp (KS X.K NM TB G st D) (EX X.K NM TB G st [] (WE E)) := hw
  intro H1 G1 J e1 r1 hJ
  refine ⟨fun i m σ H => m = xs.length - i ∧ i ≤ xs.length ∧ ∃ δ st2 G2, Ext G st G2 st2 ∧ Ext G1 st1 G2 st2 ∧ RepE X.K NM G2 st2.length σ δ ∧ Rp X.K NM TB G2 H st2 ∧
    (loopF (fun x δ s => (opt (bindT t x δ) s).bnd fun δ s => exB P Φ Ψ is δ s) (xs.drop i) δ st2).wp (KS X.K NM TB G st D) (EX X.K NM TB G st [] (WE E)), ⟨_, rfl, Nat.zero_le _, δ, st1, G1, e1, .refl, hE.ext e1, r1, hw⟩, ?_⟩
  rintro i m σ2 H2 ⟨rfl, hi, δ2, st2, G2, e2, l2, hE2, r2, hw2⟩
  obtain ⟨j1, j2⟩ := hJ i H2 G2 st2 l2.sub r2
  by_cases hlt : i < xs.length
  · have hx : xs[i]? = some xs[i] := List.getElem?_eq_getElem hlt
    obtain ⟨go, yl⟩ := j1 _ hx
    refine .inr ⟨go, fun σ3 H3 => ∃ δ st3 G3, Ext G st G3 st3 ∧ Ext G1 st1 G3 st3 ∧ RepE X.K NM G3 st3.length σ3 δ ∧ Rp X.K NM TB G3 H3 st3 ∧
      (loopF (fun x δ s => (opt (bindT t x δ) s).bnd fun δ s => exB P Φ Ψ is δ s) (xs.drop (i + 1)) δ st3).wp (KS X.K NM TB G st D) (EX X.K NM TB G st [] (WE E)), fun σ3 H3 q => ⟨xs.length - (i + 1), by omega, rfl, hlt, q⟩, fun v H3 y => ?_⟩
    obtain ⟨G3, e3, r3, x3⟩ := yl v H3 y
    rw [drop_cons hx] at hw2
    have hw2 : (((opt (bindT t xs[i] δ2) st2).bnd fun δ s => exB P Φ Ψ is δ s).bnd fun p s => match p.1 with
      | .nx => loopF (fun x δ s => (opt (bindT t x δ) s).bnd fun δ s => exB P Φ Ψ is δ s) (xs.drop (i + 1)) p.2 s
      | .ct => loopF (fun x δ s => (opt (bindT t x δ) s).bnd fun δ s => exB P Φ Ψ is δ s) (xs.drop (i + 1)) p.2 s
      | .bk => .ok (.nx, p.2) s
      | .rt d => .ok (.rt d, p.2) s).wp (KS X.K NM TB G st D) (EX X.K NM TB G st [] (WE E)) := hw2
    cases hbt : bindT t xs[i] δ2 with
    | none => rw [hbt] at hw2; exact hw2.elim
    | some δ3 =>
      rw [hbt] at hw2
      refine ⟨δ2, st2, G3, xs[i], δ3, hE2.ext e3, r3, x3, hbt, fun σ4 hE4 _ => ⟨δ3, st2, G3, hE4, r3, ?_⟩⟩
      have hw2 : ((exB P Φ Ψ is δ3 st2).bnd fun p s => match p.1 with
        | .nx => loopF (fun x δ s => (opt (bindT t x δ) s).bnd fun δ s => exB P Φ Ψ is δ s) (xs.drop (i + 1)) p.2 s
        | .ct => loopF (fun x δ s => (opt (bindT t x δ) s).bnd fun δ s => exB P Φ Ψ is δ s) (xs.drop (i + 1)) p.2 s
        | .bk => .ok (.nx, p.2) s
        | .rt d => .ok (.rt d, p.2) s).wp (KS X.K NM TB G st D) (EX X.K NM TB G st [] (WE E)) := hw2
      cases eb : exB P Φ Ψ is δ3 st2 with
      | stuck => rw [eb] at hw2; exact hw2
      | err c fs s => rw [eb] at hw2; exact EX.from (e2.trans e3) hw2
      | ok q s5 =>
        rw [eb] at hw2
        obtain ⟨f, δ5⟩ := q
        intro σ5 H5 G5 e5 r5 hE5
        cases f with
        | nx => exact ⟨δ5, s5, G5, (e2.trans e3).trans e5, (l2.trans e3).trans e5, hE5, r5, hw2⟩
        | ct => exact ⟨δ5, s5, G5, (e2.trans e3).trans e5, (l2.trans e3).trans e5, hE5, r5, hw2⟩
        | bk => exact hw2 σ5 H5 G5 ((e2.trans e3).trans e5) r5 hE5
        | rt d => exact hw2 σ5 H5 G5 ((e2.trans e3).trans e5) r5 hE5
  · have e : i = xs.length := by omega
    subst e
    rw [List.drop_length] at hw2
    exact .inl ⟨j2 (Nat.le_refl _), hw2 σ2 H2 G2 e2 r2 hE2⟩
theorem ds_while {t : IT} {ss : List Stmt} {is : List IS} (hp : PassesOwn (model X.prog X.w) X.A X.env X.xe) (hc : DT X NM TB (WE E) P Φ Ψ a t) (hb : DB X NM TB E P Φ Ψ ss is) : DS X NM TB E P Φ Ψ (.While a ss [] pos) (.whil t is) := by
  refine PS.imp (L2.ps_while hp hc hb) fun D σ H ⟨δ, st, G, hE, hR, hw⟩ => ?_
  have hw : (loopW (evT P Φ Ψ t) (exB P Φ Ψ is) 100000 δ st).wp (KS X.K NM TB G st D) (EX X.K NM TB G st [] (WE E)) := hw
  generalize 100000 = n0 at hw
  refine ⟨fun m σ H => ∃ δ st2 G2, Ext G st G2 st2 ∧ RepE X.K NM G2 st2.length σ δ ∧ Rp X.K NM TB G2 H st2 ∧ (loopW (evT P Φ Ψ t) (exB P Φ Ψ is) m δ st2).wp (KS X.K NM TB G st D) (EX X.K NM TB G st [] (WE E)), ⟨n0, δ, st, G, .refl, hE, hR, hw⟩, ?_⟩
  rintro m σ2 H2 ⟨δ2, st2, G2, e2, hE2, r2, hw2⟩
  cases m with
  | zero => exact hw2.elim
  | succ m =>
  have hw2 : ((evT P Φ Ψ t δ2 st2).bnd fun b s => if b = true then (exB P Φ Ψ is δ2 s).bnd fun p s => match p.1 with
    | .nx => loopW (evT P Φ Ψ t) (exB P Φ Ψ is) m p.2 s
    | .ct => loopW (evT P Φ Ψ t) (exB P Φ Ψ is) m p.2 s
    | .bk => .ok (.nx, p.2) s
    | .rt d => .ok (.rt d, p.2) s else .ok (.nx, δ2) s).wp (KS X.K NM TB G st D) (EX X.K NM TB G st [] (WE E)) := hw2
  refine seqT (W := WE E) e2 hE2 r2 hw2 fun k st3 H3 G3 e3 l3 hE3 r3 hw3 => ?_
  cases k with
  | false => exact L2.iteF (hw3 σ2 H3 G3 e3 r3 hE3)
  | true =>
    refine L2.iteT ⟨fun σ3 H3 => ∃ δ st2 G2, Ext G st G2 st2 ∧ RepE X.K NM G2 st2.length σ3 δ ∧ Rp X.K NM TB G2 H3 st2 ∧ (loopW (evT P Φ Ψ t) (exB P Φ Ψ is) m δ st2).wp (KS X.K NM TB G st D) (EX X.K NM TB G st [] (WE E)),
      fun σ' H' q => ⟨m, Nat.lt_succ_self _, q⟩, δ2, st3, G3, hE3, r3, ?_⟩
    have hw3 : ((exB P Φ Ψ is δ2 st3).bnd fun p s => match p.1 with
      | .nx => loopW (evT P Φ Ψ t) (exB P Φ Ψ is) m p.2 s
      | .ct => loopW (evT P Φ Ψ t) (exB P Φ Ψ is) m p.2 s
      | .bk => .ok (.nx, p.2) s
      | .rt d => .ok (.rt d, p.2) s).wp (KS X.K NM TB G st D) (EX X.K NM TB G st [] (WE E)) := hw3
    cases eb : exB P Φ Ψ is δ2 st3 with
    | stuck => rw [eb] at hw3; exact hw3
    | err c fs s => rw [eb] at hw3; exact EX.from e3 hw3
    | ok q s5 =>
      rw [eb] at hw3
      obtain ⟨f, δ5⟩ := q
      intro σ5 H5 G5 e5 r5 hE5
      cases f with
      | nx => exact ⟨δ5, s5, G5, e3.trans e5, hE5, r5, hw3⟩
      | ct => exact ⟨δ5, s5, G5, e3.trans e5, hE5, r5, hw3⟩
      | bk => exact hw3 σ5 H5 G5 (e3.trans e5) r5 hE5
      | rt d => exact hw3 σ5 H5 G5 (e3.trans e5) r5 hE5
end
end Z

set_option linter.all false
set_option maxRecDepth 100000
set_option maxHeartbeats 2000000
namespace Z
open PySem PySem.Spec PyProof.Rows
open L2 (V Hp HO Key VK XK TE TT TA TS TG TGs TO TI WX Cx Inv Ends SqL SqT Same upd upd_same upd_ne ne_of ne_of_none OpR UnR CallR R2 Dp DpAll IxR SlR PE PT PW PA PS PSs PG PGs PI PO PTs PK FnOk Room Vals RelV Sp EP thn)
open L2 (Takes XE BlkOk)
/-- no error -/
abbrev WF : WX := fun _ _ _ _ => False
section
variable {K : PySem.W.Frag} {NM : Nm} {TB : Hp → Prop} {G : Gw} {H : Hp} {st : St} {D : Addr}
def Gw.hid (G : Gw) (D : Addr) (xs : List V) : Gw := ⟨G.F, G.ι, upd G.B D (.lst xs)⟩
theorem updB_nt {B : Hp} {D : Addr} {xs : List V} (h : ∀ a ps, B a ≠ some (.tbl ps)) : ∀ a ps, (upd B D (.lst xs)) a ≠ some (.tbl ps) := fun a ps e => by
  by_cases q : a = D
  · rw [q, upd_same] at e; cases e
  · rw [upd_ne q] at e; exact h a ps e
theorem Rp.hide (tp : TbP TB) (r : Rp K NM TB G H st) (hD : H D = none) : Rp K NM TB (G.hid D []) (upd H D (.lst [])) st := by
  have r' := r.grow tp (same_upd (o := .lst []) hD)
  refine ⟨r'.sub, r'.cells, r'.inj, r'.tb, fun a o e => ?_, r.nt.1, updB_nt r.nt.2⟩
  have e : upd G.B D (.lst []) a = some o := e
  by_cases q : a = D
  · subst q
    rw [upd_same] at e ⊢
    exact ⟨e, r.fresh hD, r.apart hD⟩
  · rw [upd_ne q] at e
    exact r'.priv a o e
theorem Rp.reB (tp : TbP TB) {xs ys : List V} (r : Rp K NM TB (G.hid D xs) H st) : Rp K NM TB (G.hid D ys) (upd H D (.lst ys)) st := by
  obtain ⟨h1, h2, h3⟩ := r.priv D (.lst xs) upd_same
  refine ⟨fun a o e => ?_, fun i c e => (r.cells i c e).heap fun l o q => ?_, r.inj, tp.wr _ _ _ r.tb (by rw [h1]; trivial), fun a o e => ?_, r.nt.1, fun a ps e => ?_⟩
  rotate_right
  · have e : upd G.B D (.lst ys) a = some (.tbl ps) := e
    by_cases q : a = D
    · rw [q, upd_same] at e; cases e
    · rw [upd_ne q] at e
      exact r.nt.2 a ps (by show upd G.B D (.lst xs) a = _; rw [upd_ne q]; exact e)
  · have e : G.F a = some o := e
    have h2 : G.F D = none := h2
    rw [upd_ne fun z => by rw [z, h2] at e; cases e]
    exact r.sub a o e
  · rw [upd_ne (show (G.hid D ys).ι i ≠ D from h3 i c e l)]
    exact q
  · have e : upd G.B D (.lst ys) a = some o := e
    by_cases q : a = D
    · subst q
      rw [upd_same] at e ⊢
      exact ⟨e, h2, h3⟩
    · rw [upd_ne q] at e ⊢
      exact r.priv a o (by show upd G.B D (.lst xs) a = some o; rw [upd_ne q]; exact e)
/-- the list comes to light -/
theorem Rp.unhid {B : Hp} {xs : List V} (r : Rp K NM TB G H st) (hB : G.B = upd B D (.lst xs)) (hD : B D = none) : Rp K NM TB ⟨G.F, G.ι, B⟩ H st :=
  ⟨r.sub, r.cells, r.inj, r.tb, fun a o e => r.priv a o (by
    have e : B a = some o := e
    rw [hB, upd_ne fun z => by rw [z, hD] at e; cases e]
    exact e), r.nt.1, fun a ps e => r.nt.2 a ps (by
    have e : B a = some (.tbl ps) := e
    rw [hB, upd_ne fun z => by rw [z, hD] at e; cases e]
    exact e)⟩
theorem wipe_idem {σ : L2.St} : ∀ vs : List Nat, L2.wipe (L2.wipe σ vs) vs = L2.wipe σ vs
  | [] => rfl
  | v :: vs => by
    show L2.wipe ((L2.wipe σ vs).set v none) (v :: vs) = (L2.wipe σ vs).set v none
    rw [wipe_set List.mem_cons_self]
    show (L2.wipe (L2.wipe σ vs) vs).set v none = _
    rw [wipe_idem vs]
end
def evC (P : Prog) (Φ Ψ : Fun) : Option IT → Env → St → Res Bool
  | none, _, s => .ok true s
  | some c, δ, s => evT P Φ Ψ c δ s
def turnC (P : Prog) (Φ Ψ : Fun) (elt : IE) (tg : Tgt) (cond : Option IT) (wp : List Nat) (δ : Env) (x : Dat) (s : St) : Res (Option Dat) :=
  (opt (bindT tg x (wipeE δ wp)) s).bnd fun δ s => (evC P Φ Ψ cond δ s).bnd fun k s => if k = true then (ev P Φ Ψ elt δ s).bnd fun y s => (settle y s).bnd fun y s => .ok (some y) s else .ok none s
theorem ev_comp {P : Prog} {Φ Ψ : Fun} {elt : IE} {tg : Tgt} {it : It} {cond : Option IT} {wp : List Nat} {δ : Env} {s : St} : ev P Φ Ψ (.comp elt tg it cond wp) δ s =
    (evI P Φ Ψ it δ s).bnd fun xs s => if big xs.length = true then (loopC (turnC P Φ Ψ elt tg cond wp δ) xs s).calm.bnd fun ys s => .ok (.fl ys) s else .stuck := by
  cases cond <;> rfl
theorem Res.bnd_ok_inv {α β : Type} {r : Res α} {f : α → St → Res β} {b : β} {s : St} (h : r.bnd f = .ok b s) : ∃ a s1, r = .ok a s1 ∧ f a s1 = .ok b s := by
  cases r with
  | ok a s1 => exact ⟨a, s1, rfl, h⟩
  | err c fs s => cases h
  | stuck => cases h
theorem opt_inv {α : Type} {o : Option α} {s s' : St} {a : α} (h : opt o s = .ok a s') : o = some a ∧ s' = s := by
  cases o with
  | none => cases h
  | some b => cases h; exact ⟨rfl, rfl⟩
section
variable {X : Cx} {NM : Nm} {TB : Hp → Prop} {W : WX} {P : Prog} {Φ Ψ : Fun} {elt tg iter : Expr} {ie : IE} {it : It} {cond : Option IT} {ifs : List Expr} {t : Tgt} {pos : Pos} {scope : Scope} {own : List (Str × Nat)}
theorem lc_use (tp : TbP TB) (ht : ∀ i ∈ t.is, i ∈ own.map (·.2)) {σ : L2.St} {H : Hp} {Q : VK} (h : tD X.K NM TB (ev P Φ Ψ (.comp ie t it cond (own.map (·.2)))) W σ H Q) :
    L2.tLc (tIt X.K NM TB (evI P Φ Ψ it) W) (gT X.K NM TB t) (tTs X.K NM TB (evC P Φ Ψ cond) WF) (tD X.K NM TB (ev P Φ Ψ ie) WF) (own.map (·.2)) σ H Q := by
  obtain ⟨δ, st, G, hE, hR, hw⟩ := h
  rw [ev_comp] at hw
  refine ⟨δ, st, G, hE, hR, ?_⟩
  cases e : evI P Φ Ψ it δ st with
  | err c fs s => rw [e] at hw; exact hw
  | stuck => rw [e] at hw; exact hw
  | ok xs st1 =>
  rw [e] at hw
  have hw : (if big xs.length = true then (loopC (turnC P Φ Ψ ie t cond (own.map (·.2)) δ) xs st1).calm.bnd fun ys s => .ok (.fl ys) s else .stuck).wp (KX X.K NM TB G st Q) (EX X.K NM TB G st σ W) := hw
  by_cases hz : big xs.length = true
  · rw [if_pos hz] at hw
    cases el : loopC (turnC P Φ Ψ ie t cond (own.map (·.2)) δ) xs st1 with
    | err c fs s => rw [el] at hw; exact hw.elim
    | stuck => rw [el] at hw; exact hw.elim
    | ok all stE =>
    rw [el] at hw
    have hw : KX X.K NM TB G st Q (.fl all) stE := hw
    intro H1 G1 J e1 r1 hJ D hD
    have hB1 : G1.B D = none := r1.freshB hD
    refine ⟨fun i m H => m = xs.length - i ∧ i ≤ xs.length ∧ ∃ (st2 : St) (G2 : Gw) (acc : List V) (ys zs : List Dat), Ext (G1.hid D acc) st1 G2 st2 ∧ RepVs X.K NM G2.F acc ys ∧ acc.length ≤ i ∧ Rp X.K NM TB G2 H st2 ∧ RepE X.K NM G2 st2.length σ δ ∧
      loopC (turnC P Φ Ψ ie t cond (own.map (·.2)) δ) (xs.drop i) st2 = .ok zs stE ∧ all = ys ++ zs,
      ⟨_, rfl, Nat.zero_le _, st1, G1.hid D [], [], [], all, .refl, .nil, Nat.le_refl _, r1.hide tp hD, ⟨(hE.ext e1).len, (hE.ext e1).at_⟩, el, rfl⟩, ?_⟩
    rintro i m H2 ⟨rfl, hi, st2, G2, acc, ys, zs, e2, ra, hl, r2, hE2, el2, hall⟩
    -- a step back from the hidden list
    have back : ∀ {st3 : St} {G3 : Gw} {acc3 : List V}, Ext (G1.hid D acc3) st1 G3 st3 → Ext G1 st1 ⟨G3.F, G3.ι, G1.B⟩ st3 := fun x => ⟨x.sub, x.len, x.ι, rfl⟩
    obtain ⟨j1, j2⟩ := hJ i H2 G2 st2 e2.sub r2
    by_cases hlt : i < xs.length
    · have hx : xs[i]? = some xs[i] := List.getElem?_eq_getElem hlt
      obtain ⟨go, yl⟩ := j1 _ hx
      refine .inr ⟨go, fun H3 => ∃ (st2 : St) (G2 : Gw) (acc : List V) (ys zs : List Dat), Ext (G1.hid D acc) st1 G2 st2 ∧ RepVs X.K NM G2.F acc ys ∧ acc.length ≤ i + 1 ∧ Rp X.K NM TB G2 H3 st2 ∧ RepE X.K NM G2 st2.length σ δ ∧
        loopC (turnC P Φ Ψ ie t cond (own.map (·.2)) δ) (xs.drop (i + 1)) st2 = .ok zs stE ∧ all = ys ++ zs, fun H3 q => ⟨xs.length - (i + 1), by omega, rfl, hlt, q⟩, fun v H3 y => ?_⟩
      obtain ⟨G3, e3, r3, x3⟩ := yl v H3 y
      rw [drop_cons hx] at el2
      obtain ⟨o, s3, h1, h2⟩ := Res.bnd_ok_inv (show (turnC P Φ Ψ ie t cond (own.map (·.2)) δ xs[i] st2).bnd (fun o s => (loopC (turnC P Φ Ψ ie t cond (own.map (·.2)) δ) (xs.drop (i + 1)) s).bnd fun ys s => .ok (o.toList ++ ys) s) = .ok zs stE from el2)
      obtain ⟨zs', s4, h3, h4⟩ := Res.bnd_ok_inv h2
      cases h4
      obtain ⟨δ3, s5, h5, h6⟩ := Res.bnd_ok_inv h1
      obtain ⟨hb, rfl⟩ := opt_inv h5
      obtain ⟨k, s6, h7, h8⟩ := Res.bnd_ok_inv h6
      refine ⟨wipeE δ (own.map (·.2)), s5, G3, xs[i], δ3, (hE2.ext e3).wipes _, r3, x3, hb, fun σ4 hE4 hw4 => ⟨(hw4 _ ht).trans (wipe_idem _), δ3, s5, G3, hE4, r3, ?_⟩⟩
      rw [h7]
      intro H7 G7 e7 r7
      have hE7 : RepE X.K NM G7 s6.length σ δ := (hE2.ext e3).ext e7
      have ext7 : Ext (G1.hid D acc) st1 G7 s6 := (e2.trans e3).trans e7
      have sub7 : ∀ a o, G2.F a = some o → G7.F a = some o := fun a o z => e7.sub _ _ (e3.sub _ _ z)
      cases k with
      | false =>
        have h8 : (Res.ok none s6 : Res (Option Dat)) = .ok o s3 := h8
        cases h8
        exact L2.iteF ⟨s3, G7, acc, ys, zs', ext7, ra.mono sub7, by omega, r7, hE7, h3, hall⟩
      | true =>
        have h8 : ((ev P Φ Ψ ie δ3 s6).bnd fun y s => (settle y s).bnd fun y s => .ok (some y) s) = .ok o s3 := h8
        obtain ⟨y, s8, h9, h10⟩ := Res.bnd_ok_inv h8
        obtain ⟨y2, s9, h11, h12⟩ := Res.bnd_ok_inv h10
        cases h12
        refine L2.iteT ⟨δ3, s6, G7, hE4.ext e7, r7, ?_⟩
        rw [h9]
        intro v8 H8 G8 e8 r8 x8
        obtain ⟨y3, st9, G9, q9, e9, r9, x9⟩ := r8.settleX x8
        rw [q9] at h11
        cases h11
        have ext9 := (ext7.trans e8).trans e9
        have hD9 : G9.B D = some (.lst acc) := by rw [ext9.B]; exact upd_same
        refine ⟨acc, (r9.priv D _ hD9).1, by have := le_line hz; omega, s3, ⟨G9.F, G9.ι, upd G1.B D (.lst (acc ++ [v8]))⟩, acc ++ [v8], ys ++ [y2], zs', ⟨ext9.sub, ext9.len, ext9.ι, rfl⟩, ?_, ?_, ?_, ?_, h3, ?_⟩
        · exact RepVs.append (ra.mono fun a o z => e9.sub _ _ (e8.sub _ _ (sub7 _ _ z))) (.cons x9 .nil)
        · rw [List.length_append]; show acc.length + 1 ≤ _; omega
        · have hG : G9 = (⟨G9.F, G9.ι, G1.B⟩ : Gw).hid D acc := by
            cases G9
            have := ext9.B
            simp only [Gw.hid] at this ⊢
            rw [this]
          have r10 := r9
          rw [hG] at r10
          exact r10.reB tp
        · have z := (hE7.ext e8).ext e9
          exact ⟨z.len, z.at_⟩
        · rw [hall, List.append_assoc]; rfl
    · have e : i = xs.length := by omega
      subst e
      refine .inl ⟨j2 (Nat.le_refl _), ?_⟩
      rw [List.drop_length] at el2
      have el2 : (Res.ok [] st2 : Res (List Dat)) = .ok zs stE := el2
      cases el2
      rw [List.append_nil] at hall
      subst hall
      have hD2 : G2.B D = some (.lst acc) := by rw [e2.B]; exact upd_same
      obtain ⟨p1, p2, p3⟩ := r2.priv D _ hD2
      have := hw (.ref D) H2 ⟨G2.F, G2.ι, G1.B⟩ (e1.trans (back e2)) (r2.unhid e2.B hB1) ⟨D, acc, rfl, p1, ⟨p2, hB1⟩, p3, ra⟩
      exact this
  · rw [if_neg hz] at hw
    exact hw.elim
theorem dts_nil : PTs X [] (tTs X.K NM TB (evC P Φ Ψ none) W) := by
  have h := L2.pts_nil (X := X)
  exact ⟨fun pins s σ H Q I ⟨δ, st, G, hE, hR, hw⟩ => h.run pins s σ H Q I (hw H G .refl hR)⟩
theorem dts_one {c : Expr} {t : IT} (h : DT X NM TB W P Φ Ψ c t) : PTs X [c] (tTs X.K NM TB (evC P Φ Ψ (some t)) W) := L2.pts_one h
/-- what a block's parts promise, whatever block -/
structure BlkD (X : Cx) (NM : Nm) (TB : Hp → Prop) (P : Prog) (Φ Ψ : Fun) (elt tg : Expr) (ifs : List Expr) (scope : Scope) (ie : IE) (t : Tgt) (cond : Option IT) : Prop where
  hg : ∀ (s : Shared) (H : Hp) (C : Addr) (cl : List (Str × Addr)) (fp : List Addr), PG (X.blk s H scope (compEnvC scope cl C X.env) fp) tg (gT X.K NM TB t)
  ht : ∀ (s : Shared) (H : Hp) (C : Addr) (cl : List (Str × Addr)) (fp : List Addr), PTs (X.blk s H scope (compEnvC scope cl C X.env) fp) ifs (tTs X.K NM TB (evC P Φ Ψ cond) WF)
  he : ∀ (s : Shared) (H : Hp) (C : Addr) (cl : List (Str × Addr)) (fp : List Addr), PE (X.blk s H scope (compEnvC scope cl C X.env) fp) elt (tD X.K NM TB (ev P Φ Ψ ie) WF)
theorem de_lc (tp : TbP TB) (hc : X.calm = true) (hN : X.N.Nodup) (hi : DI X NM TB W P Φ Ψ tg iter it) (ok : BlkOk X.N X.env.scope scope own) (B : BlkD X NM TB P Φ Ψ elt tg ifs scope ie t cond) (ht : ∀ i ∈ t.is, i ∈ own.map (·.2)) (hs : ∀ x, foldedSetIterable iter X.env x = pure x) :
    DE X NM TB W P Φ Ψ (.ListComp elt [⟨tg, iter, ifs, 0⟩] scope pos) (.comp ie t it cond (own.map (·.2))) :=
  PE.imp (L2.pe_lc hc hN hi ok B.hg B.ht B.he hs) fun σ H Q h => lc_use tp ht h
theorem ds_setLc {E : XK} {lv : Bool} {i : Nat} {y : Str} {py spos : Pos} (tp : TbP TB) (hc : X.calm = true) (hN : X.N.Nodup) (hy : X.N[i]? = some y) (hyl : X.env.scope.names.lookup y = some .local)
    (hsw : swapsWith (.ListComp elt [⟨tg, iter, ifs, 0⟩] scope pos) (some (.Name y py)) spos.line X.env = pure true) (hi : DI X NM TB (WE E) P Φ Ψ tg iter it) (ok : BlkOk X.N X.env.scope scope own)
    (B : BlkD X NM TB P Φ Ψ elt tg ifs scope ie t cond) (ht : ∀ i ∈ t.is, i ∈ own.map (·.2)) (hs : ∀ x, foldedSetIterable iter X.env x = pure x) :
    DS X NM TB E P Φ Ψ (.Assign [.Name y py] (.ListComp elt [⟨tg, iter, ifs, 0⟩] scope pos) spos) (.asg i lv (.comp ie t it cond (own.map (·.2)))) := by
  refine PS.imp (L2.ps_setLc hc hN hy hyl hsw hi ok B.hg B.ht B.he hs) fun D σ H ⟨δ, st, G, hE, hR, hw⟩ => ?_
  refine lc_use tp ht ?_
  exact seqD (W := WE E) .refl hE hR hw fun x st1 v H1 G1 e1 _ hE1 r1 x1 hw1 => asg_use e1 hE1 r1 x1 hw1
end
end Z

set_option linter.all false
set_option maxRecDepth 100000
set_option maxHeartbeats 2000000
namespace Z
open PySem PySem.Spec PyProof.Rows
open L2 (V Hp HO Key VK XK TE TT TA TS TG TGs TO TI WX Cx Inv Ends SqL SqT Same upd upd_same upd_ne ne_of ne_of_none OpR UnR CallR R2 Dp DpAll IxR SlR PE PT PW PA PS PSs PG PGs PI PO PTs PK FnOk Room Vals RelV Sp EP thn)
open L2 (Takes XE BlkOk)
/-- what the tables say of the classes -/
structure ClsOk (K : PySem.W.Frag) (NM : Nm) (P : Prog) : Prop where
  dat : ∀ c k, datC P c k = true → L2.Cls K (NM.cls c) ∧ L2.NoAttr K (NM.cls c) (NM.att k)
section
variable {X : Cx} {NM : Nm} {TB : Hp → Prop} {E : XK} {P : Prog} {Φ Ψ : Fun} {a b c : Expr} {ia ib ic : IE} {p pos p' : Pos}
theorem rx_obj {K : PySem.W.Frag} {G : Gw} {H : Hp} {st : St} {v : V} {i : Nat} (x : RepX K NM G H st v (.obj i)) : v = .ref (G.ι i) := x.2
/-- o.f = value -/
theorem ds_fld {k : Nat} {f : Str} (tp : TbP TB) (ck : ClsOk X.K NM P) (hf : f = NM.att k) (he : DE X NM TB (WE E) P Φ Ψ b ib) (ho : DE X NM TB (WE E) P Φ Ψ a ia) (hs : swapsWith b (some (.Attribute a f p')) pos.line X.env = pure false) :
    DS X NM TB E P Φ Ψ (.Assign [.Attribute a f p'] b pos) (.setFld ia k ib) := by
  subst hf
  refine PS.imp (L2.ps_fld ho he hs) fun D σ H ⟨δ, st, G, hE, hR, hw⟩ => ?_
  refine seqS (W := WE E) .refl hE hR hw fun x st1 v H1 G1 e1 _ hE1 r1 x1 hw1 => ?_
  refine seqD (W := WE E) e1 hE1 r1 hw1 fun y st2 u H2 G2 e2 l2 hE2 r2 x2 hw2 => ?_
  cases y with
  | obj i =>
    obtain ⟨hi, rfl⟩ := x2
    obtain ⟨cc, ec⟩ := lt_get hi
    have hw2 : ((storeFld P (.obj i) k x st2).bnd fun _ s => .ok (Fl.nx, δ) s).wp (KS X.K NM TB G st D) (EX X.K NM TB G st [] (WE E)) := hw2
    simp only [storeFld, ec] at hw2
    cases cc with
    | ins cl fs =>
      have hw2 : ((if (Nat.blt fs.length 900 && datC P cl k) = true then Res.ok () (st2.set i (.ins cl (putK k x fs))) else .stuck).bnd fun _ s => .ok (Fl.nx, δ) s).wp (KS X.K NM TB G st D) (EX X.K NM TB G st [] (WE E)) := hw2
      by_cases hq : (Nat.blt fs.length 900 && datC P cl k) = true
      · rw [if_pos hq] at hw2
        rw [Bool.and_eq_true] at hq
        obtain ⟨c1, c2⟩ := ck.dat _ _ hq.2
        obtain ⟨dx, gs, h1, h2, h3⟩ := r2.cells i _ ec
        have hlt : fs.length < 900 := by simpa [Nat.blt_eq] using hq.1
        have rf := RepF.put (k := k) (x1.mono l2.sub) h3
        obtain ⟨e3, r3⟩ := r2.write tp (c' := .ins cl (putK k x fs)) (o := .ins (NM.cls cl) dx (L2.putF (NM.att k) v gs)) ec rfl ⟨dx, _, upd_same, h2, rf⟩ rfl
        exact ⟨G2.ι i, NM.cls cl, dx, gs, rfl, h1, c1, c2, by rw [h3.len]; omega, hw2 σ _ G2 (e2.trans e3) r3 (hE2.ext e3)⟩
      · rw [if_neg hq] at hw2
        exact hw2.elim
    | _ => exact hw2.elim
  | _ => exact hw2.elim
/-- o[i] = v -/
def rSetZ : L2.TSet := fun o i v H Q => L2.rSetL o i v H Q ∨ L2.rSetD o i v H Q
theorem set_ok (hu : X.A.units + 1 < cLine) : L2.PSet X rSetZ := by
  intro pins s σ H o i v ov iv u Q I ro ri rv h
  rcases h with h | h
  · exact L2.set_list pins s σ H o i v ov iv u Q I ro ri rv h
  · exact L2.set_dict hu pins s σ H o i v ov iv u Q I ro ri rv h
theorem RepK.anyE {K : PySem.W.Frag} {F : Hp} {k : Key} : ∀ {ks : List (Key × V)} {kvs : List (Key × Dat)}, RepK K NM F ks kvs → (ks.any fun kv => decide (kv.1 = k)) = kvs.any fun kv => decide (kv.1 = k)
  | _, _, .nil => rfl
  | _, _, .cons _ t => by simp only [List.any_cons, RepK.anyE t]
theorem RepK.mapE {K : PySem.W.Frag} {F : Hp} {k : Key} {v : V} {d : Dat} (r : RepV K NM F v d) : ∀ {ks : List (Key × V)} {kvs : List (Key × Dat)}, RepK K NM F ks kvs →
    RepK K NM F (ks.map fun kv => if kv.1 = k then (kv.1, v) else kv) (kvs.map fun kv => if kv.1 = k then (kv.1, d) else kv)
  | _, _, .nil => .nil
  | _, _, .cons (k := k') a t => by
    simp only [List.map_cons]
    by_cases e : k' = k
    · rw [if_pos e, if_pos e]
      exact .cons r (RepK.mapE r t)
    · rw [if_neg e, if_neg e]
      exact .cons a (RepK.mapE r t)
theorem RepK.app {K : PySem.W.Frag} {F : Hp} {k : Key} {v : V} {d : Dat} (r : RepV K NM F v d) : ∀ {ks : List (Key × V)} {kvs : List (Key × Dat)}, RepK K NM F ks kvs → RepK K NM F (ks ++ [(k, v)]) (kvs ++ [(k, d)])
  | _, _, .nil => .cons r .nil
  | _, _, .cons a t => .cons a (RepK.app r t)
theorem RepK.put {K : PySem.W.Frag} {F : Hp} {k : Key} {v : V} {d : Dat} (r : RepV K NM F v d) {ks : List (Key × V)} {kvs : List (Key × Dat)} (h : RepK K NM F ks kvs) : RepK K NM F (L2.putK ks k v) (putD k d kvs) := by
  unfold L2.putK putD
  rw [h.anyE]
  by_cases q : (kvs.any fun kv => decide (kv.1 = k)) = true
  · rw [if_pos q, if_pos q]
    exact h.mapE r
  · rw [if_neg q, if_neg q]
    exact h.app r
theorem RepK.len {K : PySem.W.Frag} {F : Hp} : ∀ {ks : List (Key × V)} {kvs : List (Key × Dat)}, RepK K NM F ks kvs → ks.length = kvs.length
  | _, _, .nil => rfl
  | _, _, .cons _ t => congrArg (· + 1) (RepK.len t)
theorem keyD_rep {K : PySem.W.Frag} {G : Gw} {H : Hp} {st : St} {v : V} {d : Dat} {k : Key} (x : RepX K NM G H st v d) (h : keyD d = some k) : v = L2.kV k := by
  cases d with
  | int i => cases h; exact rx_int x
  | str y =>
    cases h
    have x : RepV K NM G.F v (.str y) := x
    cases x
    rfl
  | _ => cases h
theorem bnl {n : Nat} (h : Nat.blt n BIG = true) : n < sizeLine := by
  have h1 : n < BIG := by simpa [Nat.blt_eq] using h
  exact Nat.lt_of_lt_of_le h1 (le_line (show big BIG = true from rfl))
theorem ix_use {D : Ends} {δ : Env} {σ : L2.St} {G G2 : Gw} {st st2 : St} {H2 : Hp} {y z x : Dat} {o i v : V} (tp : TbP TB) (e2 : Ext G st G2 st2) (hE2 : RepE X.K NM G2 st2.length σ δ) (r2 : Rp X.K NM TB G2 H2 st2) (xo : ∀ k, y = .obj k → k < st2.length ∧ o = .ref (G2.ι k)) (xi : RepX X.K NM G2 H2 st2 i z) (xv : RepV X.K NM G2.F v x)
    (hw : ((storeIx y z x st2).bnd fun _ s => .ok (Fl.nx, δ) s).wp (KS X.K NM TB G st D) (EX X.K NM TB G st [] (WE E))) : rSetZ o i v H2 fun H3 => D.nx σ H3 := by
  cases y with
  | obj k =>
    obtain ⟨hi, rfl⟩ := xo k rfl
    obtain ⟨cc, ec⟩ := lt_get hi
    simp only [storeIx, ec] at hw
    cases cc with
    | lst xs =>
      obtain ⟨vs, h1, h2, h3⟩ := r2.cells k _ ec
      cases z with
      | int j =>
        cases hx : L2.ixN xs.length j with
        | none => rw [show setIxD (.lst xs) (.int j) x = (L2.ixN xs.length j).map fun j => .lst (xs.set j x) from rfl, hx] at hw; exact hw.elim
        | some m =>
          rw [show setIxD (.lst xs) (.int j) x = (L2.ixN xs.length j).map fun j => .lst (xs.set j x) from rfl, hx] at hw
          obtain ⟨e3, r3⟩ := r2.write tp (c' := .lst (xs.set m x)) (o := .lst (vs.set m v)) ec rfl ⟨_, upd_same, h2, h3.set xv m⟩ rfl
          exact .inl ⟨_, vs, j, m, rfl, rx_int xi, h1, by rw [h3.length]; exact hx, hw σ _ G2 (e2.trans e3) r3 (hE2.ext e3)⟩
      | _ => exact hw.elim
    | dic kvs =>
      obtain ⟨ks, h1, h2, h3⟩ := r2.cells k _ ec
      have hw : ((match (match keyD z with
        | some k => if Nat.blt kvs.length BIG then some (Cell.dic (putD k x kvs)) else none
        | none => none) with
        | some c' => Res.ok () (st2.set k c')
        | none => .stuck).bnd fun _ s => .ok (Fl.nx, δ) s).wp (KS X.K NM TB G st D) (EX X.K NM TB G st [] (WE E)) := hw
      cases hk : keyD z with
      | none => rw [hk] at hw; exact hw.elim
      | some kk =>
        rw [hk] at hw
        have hw : ((match (if Nat.blt kvs.length BIG = true then some (Cell.dic (putD kk x kvs)) else none) with
          | some c' => Res.ok () (st2.set k c')
          | none => .stuck).bnd fun _ s => .ok (Fl.nx, δ) s).wp (KS X.K NM TB G st D) (EX X.K NM TB G st [] (WE E)) := hw
        by_cases hq : Nat.blt kvs.length BIG = true
        · rw [if_pos hq] at hw
          obtain ⟨e3, r3⟩ := r2.write tp (c' := .dic (putD kk x kvs)) (o := .dK (L2.putK ks kk v)) ec rfl ⟨_, upd_same, h2, h3.put xv⟩ rfl
          refine .inr ⟨_, _, rfl, .inl ⟨ks, kk, h1, keyD_rep xi hk, by rw [h3.len]; exact bnl hq, rfl⟩, hw σ _ G2 (e2.trans e3) r3 (hE2.ext e3)⟩
        · rw [if_neg hq] at hw
          exact hw.elim
    | _ => exact hw.elim
  | _ => exact hw.elim
theorem ds_ix (tp : TbP TB) (hu : X.A.units + 1 < cLine) (he : DE X NM TB (WE E) P Φ Ψ c ic) (ho : DE X NM TB (WE E) P Φ Ψ a ia) (hi : DE X NM TB (WE E) P Φ Ψ b ib)
    (hs : swapsWithSole [.Subscript a b p'] c pos.line X.env = pure false) (hw' : swappedStores [.Subscript a b p'] c X.env = pure none)
    (ha : ∀ v, assign (.Subscript a b p') X.env v = (do
      let ov ← holding [v] (eval a X.env)
      let iv ← holding [v, ov] (eval b X.env)
      standAt p'
      holding [v, ov, iv] (setItem ov iv v)
      release [v, ov, iv] [])) (h1 : (assignEach [.Subscript a b p'] X.env).map (·.2) = [assign (.Subscript a b p') X.env]) :
    DS X NM TB E P Φ Ψ (.Assign [.Subscript a b p'] c pos) (.setIx ia ib ic) := by
  refine PS.imp (L2.ps_asg he (L2.pg_sub ho hi (set_ok hu) ha) hs hw' h1) fun D σ H ⟨δ, st, G, hE, hR, hw⟩ => ?_
  refine seqS (W := WE E) .refl hE hR hw fun x st1 v H1 G1 e1 _ hE1 r1 x1 hw1 => ?_
  refine seqD (W := WE E) e1 hE1 r1 hw1 fun y st2 o H2 G2 e2 l2 hE2 r2 x2 hw2 => ?_
  refine seqD (W := WE E) e2 hE2 r2 hw2 fun z st3 i H3 G3 e3 l3 hE3 r3 x3 hw3 => ?_
  refine ix_use tp e3 hE3 r3 (fun k hk => ?_) x3 ((x1.mono l2.sub).mono l3.sub) hw3
  subst hk
  exact ⟨Nat.lt_of_lt_of_le x2.1 l3.len, by rw [l3.ι _ x2.1]; exact x2.2⟩
/-- name op= value: ints -/
theorem ds_augN {i : Nat} {x : Str} (op : BOp) (hN : X.N.Nodup) (hi : X.N[i]? = some x) (hx : L2.Loc X.env.scope x) (hf : X.fn x = true ∨ X.env.scope.names.lookup x = some .local) (hop : op = .add ∨ op = .sub) (he : DE X NM TB (WE E) P Φ Ψ a ia) :
    DS X NM TB E P Φ Ψ (.AugAssign (.Name x p') op.op a pos) (.augN i op ia) := by
  have key : ∀ (f : Int → Int → Int) (o : Operator), L2.PIp X o (L2.ipI f) → op.op = o → (∀ m n, binop op (.int m) (.int n) = some (.int (f m n))) → DS X NM TB E P Φ Ψ (.AugAssign (.Name x p') op.op a pos) (.augN i op ia) := by
    intro f o hp ho hb
    subst ho
    refine PS.imp (L2.ps_aug hN hi hx he hp hf) fun D σ H ⟨δ, st, G, hE, hR, hw⟩ => ?_
    obtain ⟨d, hd, hw1⟩ := wp_optb hw
    have hd' : δ[i]? = some (some d) := by
      rw [List.getD_eq_getElem?_getD] at hd
      cases e : δ[i]? with
      | none => rw [e] at hd; cases hd
      | some o => rw [e] at hd; exact congrArg some hd
    obtain ⟨v, h1, h2⟩ := hE.at_ i d hd'
    refine ⟨v, h1, ?_⟩
    refine seqD (W := WE E) .refl hE hR hw1 fun y st1 u H1 G1 e1 _ hE1 r1 x1 hw2 => ?_
    obtain ⟨z, hz, q⟩ := wp_optb hw2
    cases d with
    | int m =>
      cases y with
      | int n =>
        have hz : binop op (.int m) (.int n) = some z := hz
        rw [hb] at hz
        cases hz
        refine ⟨m, n, rr_int h2, rx_int x1, q _ H1 G1 e1 r1 (hE1.set (RepV.toR (.int _) _) i)⟩
      | _ => cases hz
    | _ => cases hz
  rcases hop with rfl | rfl
  · exact key (fun i j => i + j) .Add L2.ip_add rfl fun _ _ => rfl
  · exact key (fun i j => i - j) .Sub L2.ip_sub rfl fun _ _ => rfl
end
end Z

set_option linter.all false
set_option maxRecDepth 100000
set_option maxHeartbeats 2000000
namespace Z
open PySem PySem.Spec PyProof.Rows
open L2 (V Hp HO Key VK XK TE TT TA TS TG TGs TO TI WX Cx Inv Ends SqL SqT Same upd upd_same upd_ne ne_of ne_of_none OpR UnR CallR R2 Dp DpAll IxR SlR PE PT PW PA PS PSs PG PGs PI PO PTs PK FnOk Room Vals RelV Sp EP thn)
open L2 (Takes XE BlkOk OexC exo exd)
/-- __init__ of an own exception: self.f = p, .. -/
inductive InitB (X : Cx) (slf : Str) : List Stmt → List Str → Nat → Prop
  | nil {j : Nat} : InitB X slf [] [] j
  | cons {f p : Str} {p1 p2 p3 pos : Pos} {j : Nat} {ss : List Stmt} {fs : List Str} (hi : X.N[j]? = some p) (hv : L2.Vis X.env.scope p) (hd : (p == ("__debug__" : Str)) = false) (hcd : (p == ("__classdict__" : Str)) = false)
      (r : InitB X slf ss fs (j + 1)) : InitB X slf (.Assign [.Attribute (.Name slf p1) f p2] (.Name p p3) pos :: ss) (f :: fs) j
def tI (K : PySem.W.Frag) : List Str → Nat → TS
  | [], _ => L2.tNext
  | f :: fs, j => L2.tSeq (L2.tOst K f (L2.tVar 0) (L2.tVar j)) (tI K fs (j + 1))
theorem pss_init {X : Cx} {slf : Str} (h0 : X.N[0]? = some slf) (hv : L2.Vis X.env.scope slf) (hd : (slf == ("__debug__" : Str)) = false) (hcd : (slf == ("__classdict__" : Str)) = false) {ss : List Stmt} {fs : List Str} {j : Nat} (h : InitB X slf ss fs j) : PSs X ss (tI X.K fs j) := by
  induction h with
  | nil => exact L2.pss_nil
  | cons hi hv' hd' hcd' _ ih => exact L2.pss_cons (L2.ps_ost (L2.pe_var h0 hv hd hcd) (L2.pe_var hi hv' hd' hcd') rfl) ih
theorem upd_comm {H : Hp} {a b : Addr} {o u : HO} (h : a ≠ b) : upd (upd H a o) b u = upd (upd H b u) a o := by
  funext c
  by_cases h1 : c = a
  · subst h1
    rw [upd_ne h, upd_same, upd_same]
  · by_cases h2 : c = b
    · subst h2
      rw [upd_same, upd_ne h1, upd_same]
    · rw [upd_ne h2, upd_ne h1, upd_ne h1, upd_ne h2]
theorem tI_old {K : PySem.W.Frag} {C : Addr} (T : OexC K C) {D : Ends} {a dx : Addr} (hne : dx ≠ a) : ∀ {fs : List Str} {ys : List V} {j : Nat} {σ : L2.St} {H : Hp} {gs : List (Str × V)}, (∀ f ∈ fs, PySem.W.findIn K (.ref C) f = some none) → σ[0]? = some (some (.ref a)) →
    (∀ i y, ys[i]? = some y → σ[j + i]? = some (some y)) → ys.length = fs.length → gs.length + fs.length ≤ 900 → H a = some (exo a C (some dx)) → H dx = some (exd dx gs) → D.nx σ (upd H dx (exd dx ((fs.zip ys).reverse ++ gs))) → tI K fs j D σ H
  | [], ys, j, σ, H, gs, _, _, _, hl, _, _, h2, q => by
    have hy : ys = [] := List.eq_nil_of_length_eq_zero (by simpa using hl)
    subst hy
    have e : upd H dx (exd dx gs) = H := by
      funext b
      by_cases hb : b = dx
      · rw [hb, upd_same, h2]
      · rw [upd_ne hb]
    have q : D.nx σ (upd H dx (exd dx gs)) := q
    rw [e] at q
    exact q
  | f :: fs, [], j, σ, H, gs, _, _, _, hl, _, _, _, _ => by simp at hl
  | f :: fs, y :: ys, j, σ, H, gs, hf, h0, hy, hl, hz, h1, h2, q => by
    have hl' : ys.length = fs.length := by simpa using hl
    simp only [List.length_cons] at hz
    refine ⟨y, by simpa using hy 0 y rfl, .ref a, h0, a, C, rfl, T, hf f List.mem_cons_self, .inr ⟨dx, gs, h1, h2, by omega, ?_⟩⟩
    refine tI_old T hne (fs := fs) (ys := ys) (gs := (f, y) :: gs) (fun g m => hf g (List.mem_cons_of_mem _ m)) h0 (fun i z hz => ?_) hl' (by simp only [List.length_cons]; omega) (by rw [upd_ne (Ne.symm hne)]; exact h1) upd_same ?_
    · have := hy (i + 1) z (by simpa using hz)
      rw [show j + 1 + i = j + (i + 1) by omega]
      exact this
    · rw [L2.upd_upd]
      have e : ((f :: fs).zip (y :: ys)).reverse ++ gs = (fs.zip ys).reverse ++ (f, y) :: gs := by simp
      rw [e] at q
      exact q
/-- an own exception's __init__ -/
def spO (K : PySem.W.Frag) (fs : List Str) : Sp := fun vs H Q _ => ∃ a C ys, vs = .ref a :: ys ∧ ys.length = fs.length ∧ fs.length ≤ 900 ∧ fs ≠ [] ∧ OexC K C ∧ (∀ f ∈ fs, PySem.W.findIn K (.ref C) f = some none) ∧ H a = some (exo a C none) ∧
  ∀ dx, H dx = none → dx ≠ a → Q .non (upd (upd H dx (exd dx (fs.zip ys).reverse)) a (exo a C (some dx)))
theorem tI_new {K : PySem.W.Frag} {fs : List Str} {vs : List V} {H : Hp} {Q : VK} {E : XK} {σ : L2.St} {D : Ends} (h : spO K fs vs H Q E) (hs : ∀ (i : Nat) (v : V), vs[i]? = some v → σ[i]? = some (some v)) (hD : ∀ σ' H', Q .non H' → D.nx σ' H') : tI K fs 1 D σ H := by
  obtain ⟨a, C, ys, rfl, hl, hz, hne, T, hf, ha, q⟩ := h
  cases fs with
  | nil => exact absurd rfl hne
  | cons f fs =>
    cases ys with
    | nil => simp at hl
    | cons y ys =>
      have hl' : ys.length = fs.length := by simpa using hl
      simp only [List.length_cons] at hz
      have h0 : σ[0]? = some (some (.ref a)) := hs 0 _ rfl
      refine ⟨y, hs 1 y rfl, .ref a, h0, a, C, rfl, T, hf f List.mem_cons_self, .inl ⟨ha, fun dx hdx hd => ?_⟩⟩
      refine tI_old T hd (fs := fs) (ys := ys) (gs := [(f, y)]) (fun g m => hf g (List.mem_cons_of_mem _ m)) h0 (fun i z hz => ?_) hl' (by simp only [List.length_cons, List.length_nil]; omega) upd_same (by rw [upd_ne hd]; exact upd_same) ?_
      · exact hs (1 + 1 + i) z (by rw [show 1 + 1 + i = i + 1 + 1 by omega]; simpa using hz)
      · have e := q dx hdx hd
        have e1 : ((f :: fs).zip (y :: ys)).reverse = (fs.zip ys).reverse ++ [(f, y)] := by simp
        rw [e1] at e
        refine hD _ _ ?_
        rw [upd_comm hd, L2.upd_upd, upd_comm (Ne.symm hd)]
        exact e
section
variable {X : Cx} {NM : Nm} {TB : Hp → Prop} {E : XK} {P : Prog} {Φ Ψ : Fun} {a b c : Expr} {ia ib ic : IE} {p pos p' : Pos}
/-- a class of exceptions, as the tables have it -/
structure OexAt (X : Cx) (k : Nat) (C : Addr) (fs : List Str) : Prop where
  T : OexC X.K C
  no : ∀ f ∈ fs, PySem.W.findIn X.K (.ref C) f = some none
  ne : fs ≠ []
  few : fs.length ≤ 900
  run : ∃ (fI : Addr) (fd : FuncData) (ps : List Str), PySem.W.findIn X.K (.ref C) "__init__" = some (some (.ref fI)) ∧ PySem.W.typeIn X.K (.ref fI) = some (.type "function") ∧ FnOk X.prog X.w X.K X.mg X.base (L2.CX X.prog X.w) k fI fd ps (spO X.K fs) ∧
    Plain fd.params ps ∧ ps.Nodup ∧ fd.defaults = .none ∧ ps.length = fs.length + 1
theorem repF_zip {K : PySem.W.Frag} {F : Hp} : ∀ {ks : List Nat} {vs : List V} {ds : List Dat}, RepVs K NM F vs ds → RepF K NM F ((ks.map NM.att).zip vs) (ks.zip ds)
  | [], _, _, _ => by simp only [List.map_nil, List.zip_nil_left]; exact .nil
  | _ :: _, _, _, .nil => by simp only [List.zip_nil_right]; exact .nil
  | k :: ks, _, _, .cons a r => .cons a (repF_zip (ks := ks) r)
theorem repF_app {K : PySem.W.Frag} {F : Hp} : ∀ {gs hs : List (Str × V)} {fs es : List (Nat × Dat)}, RepF K NM F gs fs → RepF K NM F hs es → RepF K NM F (gs ++ hs) (fs ++ es)
  | _, _, _, _, .nil, s => s
  | _, _, _, _, .cons a r, s => .cons a (repF_app r s)
theorem repF_rev {K : PySem.W.Frag} {F : Hp} : ∀ {gs : List (Str × V)} {fs : List (Nat × Dat)}, RepF K NM F gs fs → RepF K NM F gs.reverse fs.reverse
  | _, _, .nil => .nil
  | _, _, .cons a r => by
    rw [List.reverse_cons, List.reverse_cons]
    exact repF_app (repF_rev r) (.cons a .nil)
theorem ds_rais {k cl : Nat} {q : ClsI} {x : Str} {e : Expr} {es : List Expr} {is : List IE} (tp : TbP TB) (hc : X.calm = true) (tk : Takes X (WE E)) (hq : P.clss[cl]? = some q) (T : OexAt X k (NM.cls cl) (q.flds.map NM.att)) (hr : Room (k + 1) X.A) (hg : L2.Gl X x) (hm : X.mg x = some (.ref (NM.cls cl)))
    (hdb : (x == ("__debug__" : Str)) = false) (ha : DL X NM TB (WE E) P Φ Ψ (e :: es) is) (ns : noStars (e :: es) = true) :
    DS X NM TB E P Φ Ψ (.Raise (some (.Call (.Name x p) (e :: es) [] p')) none pos) (.rais cl is) := by
  obtain ⟨fI, fd, ps, iC, tI, F1, pl, nd, dv, hl⟩ := T.run
  obtain ⟨n1, n2⟩ := noStars_cons ns
  have hb : L2.Binds X.K fd ps [] := L2.Binds.all fun us hu => by
    have := bind_plain (us := us) (ws := []) (ks := []) pl nd dv (by rw [hu, List.drop_length]) rfl (by omega)
    rw [List.append_nil] at this
    exact this
  refine PS.imp (L2.ps_raise hc tk (L2.pmk_oex (dvs := []) T.T iC tI F1 hr hb .nil (fun pins σ H s e s' I z => ?_) hg hm ha hdb (star_cons n1) (star_any n2))) fun D σ H ⟨δ, st, G, hE, hR, hw⟩ => ?_
  · obtain ⟨_, _, _, _, _, _, _, _, _, _, _, _, z⟩ := z
    exact z.elim
  · refine seqL (W := WE E) .refl hE hR hw fun ds st1 vs H1 G1 e1 _ hE1 r1 x1 hw1 => ?_
    have hw1 : (match P.clss[cl]? with
      | some q => if ds.length = q.flds.length then (Res.err cl (q.flds.zip ds).reverse st1 : REx) else .stuck
      | none => .stuck).wp (KS X.K NM TB G st D) (EX X.K NM TB G st [] (WE E)) := hw1
    rw [hq] at hw1
    have hw1 : (if ds.length = q.flds.length then (Res.err cl (q.flds.zip ds).reverse st1 : REx) else .stuck).wp (KS X.K NM TB G st D) (EX X.K NM TB G st [] (WE E)) := hw1
    by_cases hn : ds.length = q.flds.length
    · rw [if_pos hn] at hw1
      have hv : vs.length = q.flds.length := by rw [x1.length, hn]
      have hfew := T.few
      rw [List.length_map] at hfew
      refine ⟨by omega, fun a na => ⟨a, NM.cls cl, vs, by rw [List.append_nil], by rw [List.length_map]; exact hv, T.few, T.ne, T.T, T.no, upd_same, fun dx hdx hda => ⟨rfl, dx, _, upd_same, by rw [upd_ne hda]; exact upd_same, by rw [upd_ne hda] at hdx; exact hdx, ?_⟩⟩⟩
      have hdx' : H1 dx = none := by rw [upd_ne hda] at hdx; exact hdx
      have eq : upd (L2.del (upd (upd (upd H1 a (exo a (NM.cls cl) none)) dx (exd dx ((q.flds.map NM.att).zip vs).reverse)) a (exo a (NM.cls cl) (some dx))) a) dx (.xd ((q.flds.map NM.att).zip vs).reverse) = upd H1 dx (.xd ((q.flds.map NM.att).zip vs).reverse) := by
        funext b
        by_cases h1 : b = dx
        · rw [h1, upd_same, upd_same]
        · rw [upd_ne h1, upd_ne h1]
          by_cases h2 : b = a
          · rw [h2, L2.del_same, na]
          · rw [L2.del_ne h2, upd_ne h2, upd_ne h1, upd_ne h2]
      rw [eq]
      exact hw1 dx _ G1 _ e1 (r1.grow tp (same_upd hdx')) upd_same (repF_rev (repF_zip x1))
    · rw [if_neg hn] at hw1
      exact hw1.elim
end
end Z

set_option linter.all false
set_option maxRecDepth 100000
set_option maxHeartbeats 2000000
namespace Z
open PySem PySem.Spec PyProof.Rows
open L2 (V Hp HO Key VK XK TE TT TA TS TG TGs TO TI WX Cx Inv Ends SqL SqT Same upd upd_same upd_ne ne_of ne_of_none OpR UnR CallR R2 Dp DpAll IxR SlR PE PT PW PA PS PSs PG PGs PI PO PTs PK FnOk Room Vals RelV Sp EP thn)
open L2 (Takes XE BlkOk)
/-- the base of an attribute is read as it stands -/
def baseOk : Expr → Bool
  | .Call (.Name id _) [] [] _ => id != "super"
  | _ => true
theorem base_eq {o : Expr} {m : Str} {env : PySem.Env} (h : baseOk o = true) : attributeBase o m env (eval o env) = eval o env := by
  cases o with
  | Call f es ks p =>
    cases f with
    | Name id p1 =>
      cases es with
      | nil =>
        cases ks with
        | nil =>
          have h : (id != "super") = true := h
          unfold attributeBase
          simp only [h, Bool.true_or, if_true, bind_pure]
        | cons _ _ => rfl
      | cons _ _ => rfl
    | _ => rfl
  | _ => rfl
theorem form_all {pos : Pos} {env : PySem.Env} : ∀ {es : List Expr}, noStars es = true → (backTo pos (starEach es env)).all (!·.1) = true
  | [], _ => rfl
  | e :: es, h => by
    obtain ⟨h1, h2⟩ := noStars_cons h
    rw [star_cons h1]
    show (true && (backTo pos (starEach es env)).all (!·.1)) = true
    rw [form_all h2]
    rfl
theorem form_ok {pos : Pos} {env : PySem.Env} {es : List Expr} {kws : List Keyword} {n : Nat} (h1 : noStars es = true) (h2 : kwAll kws = true) (h3 : n < 29) : methodCallForm n (backTo pos (starEach es env)) (backToKw pos (keywordEach kws env)) = true := by
  unfold methodCallForm
  rw [form_all h1, kw_all h2]
  have : n + (if (backToKw pos (keywordEach kws env)).isEmpty = true then 0 else 1) < 30 := by split <;> omega
  simpa using this
theorem meth_eval {o : Expr} {m : Str} {apos pos : Pos} {es : List Expr} {kws : List Keyword} {env : PySem.Env} (hb : attributeBase o m env (eval o env) = eval o env) (h1 : noStars es = true) (h2 : kwAll kws = true) (h3 : es.length + kws.length < 29) (h4 : (apos.endLine == pos.line) = true) :
    eval (.Call (.Attribute o m apos) es kws pos) env = (do
      let ov ← eval o env
      standAt apos.atName
      let (f, first) ← holding [ov] (getMethod ov m (do return (← importBound o env).getD true))
      callWith pos f first (backTo pos (starEach es env)) (backToKw pos (keywordEach kws env))) := by
  show (do
    let ov ← attributeBase o m env (eval o env)
    standAt apos.atName
    methodCall o m apos pos env ov (es.length + kws.length) (backTo pos (starEach es env)) (backToKw pos (keywordEach kws env))) = _
  rw [hb]
  have hf := form_ok (pos := pos) (env := env) (n := es.length + kws.length) h1 h2 h3
  refine congrArg (eval o env >>= ·) (funext fun ov => ?_)
  refine congrArg (standAt apos.atName >>= ·) (funext fun _ => ?_)
  unfold methodCall
  rw [hf]
  refine congrArg (holding [ov] _ >>= ·) (funext fun p => ?_)
  have hp : methodCallPos true o env apos pos = pure pos := by
    unfold methodCallPos
    rw [if_pos (by rw [h4]; rfl)]
  obtain ⟨f, first⟩ := p
  rw [hp]
  simp only [pure_bind]
section
variable {X : Cx} {NM : Nm} {TB : Hp → Prop} {W : WX} {P : Prog} {Φ Ψ : Fun} {a b c : Expr} {ia ib ic : IE} {p pos p' apos : Pos}
/-- a field read -/
theorem de_fld {k : Nat} {f : Str} (ck : ClsOk X.K NM P) (hf : f = NM.att k) (ha : DE X NM TB W P Φ Ψ a ia) (hb : attributeBase a f X.env (eval a X.env) = eval a X.env) : DE X NM TB W P Φ Ψ (.Attribute a f pos) (.fld ia k) := by
  subst hf
  refine PE.imp (L2.pe_fld ha hb) fun σ H Q ⟨δ, st, G, hE, hR, hw⟩ => ?_
  refine seqR .refl hE hR hw fun x st1 v H1 G1 e1 _ hE1 r1 x1 hw1 => ?_
  obtain ⟨z, hz, q⟩ := wp_opt hw1
  have w := r1.viewR x1
  cases hv : view st1 (raw x) with
  | ins cl fs =>
    rw [hv] at hz w
    have hz : (if datC P cl k = true then fs.lookup k else none) = some z := hz
    by_cases hd : datC P cl k = true
    · rw [if_pos hd] at hz
      obtain ⟨c1, c2⟩ := ck.dat _ _ hd
      obtain ⟨ad, dx, gs, rfl, h1, h2⟩ := w
      have h3 := RepF.lookup (k := k) h2
      rw [hz] at h3
      obtain ⟨u, h4, h5⟩ := h3
      exact ⟨ad, _, dx, gs, u, rfl, h1, c1, c2, h4, q _ _ _ e1 r1 h5.toX⟩
    · rw [if_neg hd] at hz
      cases hz
  | _ => rw [hv] at hz; cases hz
/-- a method's function -/
structure MethAt (X : Cx) (C : Addr) (m : Str) (k : Nat) (f : Addr) (fd : FuncData) (ps : List Str) (sp : Sp) : Prop where
  cls : L2.Cls X.K C
  meth : L2.Meth X.K C m f
  fn : FnAt X k f fd ps sp
theorem de_meth {k m : Nat} {nm : Str} {es : List Expr} {is : List IE} (hm : nm = NM.att m) (hr : Room k X.A) (tk : Takes X W)
    (F : ∀ c q f, P.clss[c]? = some q → q.meths.lookup m = some f → ∃ fa fd ps, ps.length = npOf P f ∧ MethAt X (NM.cls c) (NM.att m) k fa fd ps (spD X.K NM TB ps.length (Φ f)))
    (hb : attributeBase a nm X.env (eval a X.env) = eval a X.env) (ns : noStars es = true) (hn : es.length < 29) (hl : (apos.endLine == pos.line) = true) (ho : DE X NM TB W P Φ Ψ a ia) (ha : DA X NM TB W P Φ Ψ es is) :
    DE X NM TB W P Φ Ψ (.Call (.Attribute a nm apos) es [] pos) (.meth m ia is) := by
  subst hm
  refine ⟨fun pins s σ H Q I ⟨δ, st, G, hE, hR, hw⟩ => ?_⟩
  have hw : ((ev P Φ Ψ ia δ st).bnd fun x s => match view s (raw x) with
    | .ins c fs => (match P.clss[c]? with
      | some q => (match q.meths.lookup m, fs.lookup m with
        | some f, none => (evs P Φ Ψ is δ s).bnd fun ds s => if npOf P f = ds.length + 1 then Φ f (raw x :: ds) s else .stuck
        | _, _ => .stuck)
      | none => .stuck)
    | _ => .stuck).wp (KX X.K NM TB G st Q) (EX X.K NM TB G st σ W) := hw
  refine PySem.W.methodCall_KW (thn (ho.run pins s σ H _ I (seqR (R := fun v H1 => ∃ δ1 st1 G1 x, Ext G st G1 st1 ∧ RepE X.K NM G1 st1.length σ δ1 ∧ δ1 = δ ∧ Rp X.K NM TB G1 H1 st1 ∧ RepR X.K NM G1 st1.length v (raw x) ∧ (match view st1 (raw x) with
    | .ins c fs => (match P.clss[c]? with
      | some q => (match q.meths.lookup m, fs.lookup m with
        | some f, none => (evs P Φ Ψ is δ st1).bnd fun ds s => if npOf P f = ds.length + 1 then Φ f (raw x :: ds) s else .stuck
        | _, _ => .stuck)
      | none => .stuck)
    | _ => .stuck).wp (KX X.K NM TB G st Q) (EX X.K NM TB G st σ W)) .refl hE hR hw fun x st1 v H1 G1 e1 _ hE1 r1 x1 hw1 => ⟨δ, st1, G1, x, e1, hE1, rfl, r1, x1, hw1⟩)) fun u s1 ⟨v, H1, I1, rv, q1⟩ => ?_) (meth_eval hb ns rfl (by simpa using hn) hl)
  obtain ⟨δ1, st1, G1, x, e1, hE1, hδ, r1, x1, hw1⟩ := q1
  subst hδ
  have w := r1.viewR x1
  cases hv : view st1 (raw x) with
  | ins cl fs =>
    rw [hv] at hw1 w
    cases hq : P.clss[cl]? with
    | none => simp only [hq] at hw1; exact hw1.elim
    | some q =>
      simp only [hq] at hw1
      cases hf : q.meths.lookup m with
      | none => simp only [hf] at hw1; exact hw1.elim
      | some f =>
        cases hfs : fs.lookup m with
        | some _ => simp only [hf, hfs] at hw1; exact hw1.elim
        | none =>
          simp only [hf, hfs] at hw1
          obtain ⟨fa, fd, ps, hnp, M⟩ := F cl q f hq hf
          obtain ⟨ad, dx, gs, rfl, h1, h2⟩ := w
          have h3 := RepF.lookup (k := m) h2
          rw [hfs] at h3
          cases rv
          refine L2.getmeth_ok I1 h1 M.cls M.meth h3 ?_
          have hw2 : ((evs P Φ Ψ (is ++ []) δ1 st1).bnd fun ds s => if npOf P f = ds.length + 1 then Φ f (raw x :: ds) s else .stuck).wp (KX X.K NM TB G st Q) (EX X.K NM TB G st σ W) := by rw [List.append_nil]; exact hw1
          refine call_args (js := []) (kws := []) M.fn.keep ns rfl ha dk_nil I1 e1 hE1 r1 hw2 fun ds es' st2 vs zs us ws H2 G2 s2 e2 l2 hE2 r2 x2 x3 n1 n2 hw3 I2 rv2 rz => ?_
          have : es' = [] := List.eq_nil_of_length_eq_zero n2
          subst this
          cases x3
          cases rz
          rw [List.append_nil] at hw3
          have hw3 : (if npOf P f = ds.length + 1 then Φ f (raw x :: ds) st2 else .stuck).wp (KX X.K NM TB G st Q) (EX X.K NM TB G st σ W) := hw3
          by_cases hlen : npOf P f = ds.length + 1
          case neg => rw [if_neg hlen] at hw3; exact hw3.elim
          rw [if_pos hlen] at hw3
          have x1' := x1.ext l2
          have hlu : us.length = is.length := by rw [← rv2.length, x2.length, n1]
          have b := bind_plain (us := .ref ad :: us) (ws := []) (ks := []) M.fn.plain M.fn.nd M.fn.dv (by rw [List.drop_of_length_le]; simp only [List.length_cons]; omega) rfl (by simp only [List.length_cons]; omega)
          rw [List.append_nil] at b
          exact run_fnD (args := ⟨.ref ad :: us, []⟩) (xs := .ref ad :: vs) M.fn.ok hr tk I2 (.cons rfl rv2) (.of_eq b) (spD_use (W := W) (σ := σ) e2 (by simp only [List.length_cons]; rw [rv2.length]; omega) (.cons x1' x2) r2 hw3)
  | _ => rw [hv] at hw1; exact hw1.elim
end
end Z

set_option linter.all false
set_option maxRecDepth 100000
set_option maxHeartbeats 2000000
namespace Z
open PySem PySem.Spec PyProof.Rows
open L2 (V Hp HO Key VK XK TE TT TA TS TG TGs TO TI WX Cx Inv Ends SqL SqT Same upd upd_same upd_ne ne_of ne_of_none OpR UnR CallR R2 Dp DpAll IxR SlR PE PT PW PA PS PSs PG PGs PI PO PTs PK FnOk Room Vals RelV Sp EP thn)
open L2 (Takes XE BlkOk)
section
variable {X : Cx} {NM : Nm} {TB : Hp → Prop} {W : WX} {P : Prog} {Φ Ψ : Fun} {a b c : Expr} {ia ib ic : IE} {p pos p' apos : Pos}
theorem run_makeD {k : Nat} {C f : Addr} {fd : FuncData} {ps : List Str} {sp : Sp} {pins : List (Addr × Obj)} {σ : L2.St} {H : Hp} {s : Shared} {Q : VK} {us : List Value} {kw : List (Str × Value)} {vs : List V} {ws : List Value} (M : L2.Mk X.K C f) (F : FnOk X.prog X.w X.K X.mg X.base (L2.CX X.prog X.w) k f fd ps sp)
    (hr : Room (k + 1) X.A) (tk : Takes X W) (I : Inv X pins σ H s) (r : Vals vs ws) (hb : ∀ s : Shared, X.K.In s.heap → ∀ self, BindsTo s fd ⟨self :: us, kw⟩ (ps.zip (self :: ws)))
    (h : ∀ x dx, H x = none → H dx = none → dx ≠ x → sp (.ref x :: vs) (upd (upd H dx (.own x)) x (.ins C dx [])) (fun v H2 => v = .non ∧ Q (.ref x) H2) fun c d H' => W c d σ H') :
    wpAny (model X.prog X.w) X.A (call (.ref C) us kw) (EP X pins σ Q) X.xe s := by
  have hq := h (s.heap.objs.size + 1) s.heap.objs.size (I.hok.fresh (Nat.le_succ _)) (I.hok.fresh (Nat.le_refl _)) (Nat.ne_of_lt (Nat.lt_succ_self _))
  have I2 := L2.Inv.made (C := C) I
  have r2 : Vals (V.ref (s.heap.objs.size + 1) :: vs) (Value.ref (s.heap.objs.size + 1) :: ws) := .cons rfl r
  refine wpAny_call (L2.make_map (f := f) I.kIn M.makes M.init (beq_iff_eq.mp M.fn) (codeAny_mono (F.run _ X.stack _ _ ⟨Value.ref (s.heap.objs.size + 1) :: us, kw⟩ (Value.ref (s.heap.objs.size + 1) :: ws) _ _ _ (hr.make C us kw)
    (I2.env0.make C us kw) (hb _ I2.kIn _) r2 hq) fun r s' hq' => ?_))
  cases r with
  | error e => exact tk e s' (XE.of_call I2 (fun cls d H' h => h) hq')
  | ok fl =>
    cases fl with
    | ret u =>
      obtain ⟨v, H', I3, rv, ev, q3⟩ := I2.after hq'
      subst ev
      exact ⟨rv, ⟨V.ref (s.heap.objs.size + 1), H', I3, rfl, q3⟩⟩
    | next => exact False.elim hq'
    | brk => exact False.elim hq'
    | cont => exact False.elim hq'
/-- a class that is made by its name -/
structure MakeAt (X : Cx) (k : Nat) (C f : Addr) (fd : FuncData) (ps : List Str) (sp : Sp) : Prop where
  mkC : L2.Mk X.K C f
  ok : FnOk X.prog X.w X.K X.mg X.base (L2.CX X.prog X.w) k f fd ps sp
  plain : Plain fd.params ps
  nd : ps.Nodup
  dv : fd.defaults = .none
theorem de_make {k n cl : Nat} {q : ClsI} {f : Addr} {fd : FuncData} {ps : List Str} {x : Str} {es : List Expr} {kws : List Keyword} {is js : List IE} (tp : TbP TB) (hq : P.clss[cl]? = some q) (hi : q.init = some n) (F : MakeAt X k (NM.cls cl) f fd ps (spD X.K NM TB ps.length (Ψ n))) (hr : Room (k + 1) X.A) (tk : Takes X W)
    (hg : L2.Gl X x) (hm : X.mg x = some (.ref (NM.cls cl))) (hdb : (x == ("__debug__" : Str)) = false) (ha : DA X NM TB W P Φ Ψ es is) (hkw : DK X NM TB W P Φ Ψ kws js) (ns : noStars es = true) (ka : kwAll kws = true) (hl : is.length + js.length + 1 = ps.length)
    (hk : kwNames kws = ps.drop (is.length + 1)) {pm : List (Sum Nat Dat)} (hpm : ∀ ds : List Dat, ds.length + 1 = ps.length → permD pm ds = some ds) :
    DE X NM TB W P Φ Ψ (.Call (.Name x p) es kws pos) (.make cl (is ++ js) pm) := by
  refine ⟨fun pins s σ H Q I ⟨δ, st, G, hE, hR, hw⟩ => ?_⟩
  refine wpAny_Call_Name_kw (L2.ld_glob I hg hm ?_ hdb)
  have hw : ((evs P Φ Ψ (is ++ js) δ st).bnd fun ds s => (opt (permD pm ds) s).bnd fun vs s => match P.clss[cl]? with
    | some q => (match q.init with
      | some f => (Ψ f (.obj s.length :: vs) (s ++ [.ins cl []])).bnd fun r s' => if isNonD r then (if q.lv then .ok (.obj s.length) (s'.take (s.length + 1)) else
          (settle (.obj s.length) s').bnd fun d s' => .ok d (s'.take s.length)) else .stuck
      | none => .stuck)
    | none => .stuck).wp (KX X.K NM TB G st Q) (EX X.K NM TB G st σ W) := hw
  simp only [hq, hi] at hw
  refine call_args F.mkC.kp ns ka ha hkw I .refl hE hR hw fun ds es st1 vs zs us ws H1 G1 s1 e1 l1 hE1 r1 x1 x2 n1 n2 hw1 I1 rv rz => ?_
  have hln : (ds ++ es).length + 1 = ps.length := by rw [List.length_append, n1, n2, hl]
  rw [hpm _ hln] at hw1
  have hlu : us.length = is.length := by rw [← rv.length, x1.length, n1]
  have hlw : ws.length = js.length := by rw [← rz.length, x2.length, n2]
  have xx := x1.append x2
  have hpos : 0 < ps.length := by omega
  refine run_makeD (ws := us ++ ws) (vs := vs ++ zs) F.mkC F.ok hr tk I1 (rv.append rz) (fun s0 _ self => .of_eq ?_) fun xa dx hx hdx hne => ?_
  · have b := bind_plain (us := self :: us) (ws := ws) F.plain F.nd F.dv (ks := kwNames kws) (by rw [hk]; simp only [List.length_cons, hlu]) (by rw [hk, List.length_drop, hlw]; omega) (by simp only [List.length_cons]; omega)
    exact b
  · -- the instance
    have r2 := r1.grow tp (same_upd (o := .own xa) hdx)
    have hx2 : upd H1 dx (.own xa) xa = none := by rw [upd_ne (Ne.symm hne)]; exact hx
    have r3 := r2.grow tp (same_upd (o := .ins (NM.cls cl) dx []) hx2)
    obtain ⟨G2, e2, r4, h4, h5⟩ := r3.push (p := xa) (c := .ins cl []) ⟨dx, [], upd_same, r1.fresh hx, .nil⟩ (r1.freshB hx) (r1.apart hx)
    have hw2 : ((Ψ n (.obj st1.length :: (ds ++ es)) (st1 ++ [.ins cl []])).bnd fun r s' => if isNonD r then (if q.lv then .ok (.obj st1.length) (s'.take (st1.length + 1)) else
          (settle (.obj st1.length) s').bnd fun d s' => .ok d (s'.take st1.length)) else .stuck).wp (KX X.K NM TB G st Q) (EX X.K NM TB G st σ W) := hw1
    have e12 := e1.trans e2
    refine ⟨.obj st1.length :: (ds ++ es), st1 ++ [.ins cl []], G2, by simp only [List.length_cons]; rw [xx.length]; omega, .cons ⟨by simp, by rw [h4]⟩ (xx.ext e2), r4, ?_⟩
    cases eo : Ψ n (.obj st1.length :: (ds ++ es)) (st1 ++ [.ins cl []]) with
    | stuck => rw [eo] at hw2; exact hw2
    | err cc fs s5 => rw [eo] at hw2; exact (EX.from e12 hw2).sig
    | ok d s5 =>
      rw [eo] at hw2
      have hw3 : (if isNonD d = true then (if q.lv = true then .ok (.obj st1.length) (s5.take (st1.length + 1)) else
          (settle (.obj st1.length) s5).bnd fun d s' => .ok d (s'.take st1.length)) else .stuck).wp (KX X.K NM TB G st Q) (EX X.K NM TB G st σ W) := hw2
      intro v H5 G5 e5 r5 x5
      by_cases hn : isNonD d = true
      · rw [if_pos hn] at hw3
        have hd : d = .non := by cases d <;> first | rfl | cases hn
        have hv : v = .non := by
          rw [hd] at x5
          have x5 : RepV X.K NM G5.F v .non := x5
          cases x5
          rfl
        refine ⟨hv, ?_⟩
        have hi5 : st1.length < s5.length := Nat.lt_of_lt_of_le (by simp) e5.len
        have hι : G5.ι st1.length = xa := by rw [e5.ι _ (by simp), h4]
        have eb : Ext G1 st1 G5 s5 := e2.trans e5
        by_cases hlv : q.lv = true
        · rw [if_pos hlv] at hw3
          have ht : (s5.take (st1.length + 1)).length = st1.length + 1 := by rw [List.length_take]; omega
          refine hw3 (.ref xa) H5 G5 ?_ (r5.take _) ⟨by rw [ht]; omega, by rw [hι]⟩
          exact e1.trans ⟨eb.sub, by rw [ht]; omega, eb.ι, eb.B⟩
        · rw [if_neg hlv] at hw3
          obtain ⟨d6, s6, G6, q6, e6, r6, x6⟩ := r5.settleX (v := .ref xa) (d := .obj st1.length) ⟨hi5, by rw [hι]⟩
          rw [q6] at hw3
          exact hw3 (.ref xa) H5 G6 (e1.trans (Ext.take (eb.trans e6))) (r6.take _) x6.toX
      · rw [if_neg hn] at hw3
        exact hw3.elim
end
end Z

set_option linter.all false
set_option maxRecDepth 100000
set_option maxHeartbeats 2000000
namespace Z
open PySem PySem.Spec PyProof.Rows
open L2 (V Hp HO Key VK XK TE TT TA TS TG TGs TO TI WX Cx Inv Ends SqL SqT Same upd upd_same upd_ne ne_of ne_of_none OpR UnR CallR R2 Dp DpAll IxR SlR PE PT PW PA PS PSs PG PGs PI PO PTs PK FnOk Room Vals RelV Sp EP thn)
open L2 (Takes XE BlkOk)
open PySem.W (InstAt findIn mroIn isFn Frag looks_findIn looks_mroIn Looks)
section
variable {prog : Program} {w : World} {A : Around} {E : Value → Shared → Prop} {s : Shared} {K : Frag} {x y C f : Addr} {ox oy : Obj} {od od' : Option Obj}
theorem ifBound_ne {M : Model} {args : List Value} {Q : Option Value → Shared → Prop} (X : K.In s.heap) (I : InstAt s.heap x ox C od) (hs : findIn K (.ref C) "__ne__" = some (some (.builtin "object.__ne__")))
    (h : wpAny M A (call (.builtin "object.__ne__") (.ref x :: args)) (fun v => Q (some v)) E s) : wpAny M A (callSpecialIfBound? (.ref x) "__ne__" args) Q E s := by
  simp only [callSpecialIfBound?, bindSpecialIfBound?]
  refine wpAny_holding (wpAny_bind (wpAny_bind (wpAny_bind (I.type.here ((looks_findIn X hs).here ?_)))))
  refine wpAny_bind (wpAny_askSetting (wpAny_ite ?_))
  have fin : wpAny M A (call (.builtin "object.__ne__") ([.ref x] ++ args) >>= fun v => pure (some v)) Q E s := wpAny_bind (wpAny_mono h (fun v s' h' => wpAny_pure h') fun _ _ h' => h')
  have hb := PySem.F.cmp_object.ne.bind (.ref x)
  split
  · rw [hb]
    exact wpAny_bind (wpAny_pure (wpAny_pure (by exact fin)))
  · rw [hb]
    exact wpAny_tryCatch (wpAny_bind (wpAny_pure (wpAny_pure (by exact fin))))
theorem ne_own (hu : A.units + 1 < cLine) (X : K.In s.heap) (I : InstAt s.heap x ox C od) (J : InstAt s.heap y oy C od') (hne : findIn K (.ref C) "__ne__" = some (some (.builtin "object.__ne__"))) (hob : mroIn K C (.type "object") = some true)
    (hs : findIn K (.ref C) "__eq__" = some (some (.ref f))) (hf : isFn K (.ref f) = true) {Q : Value → Shared → Prop}
    (h : wpAny (model prog w) A.in1 (call (.ref f) [.ref x, .ref y]) (fun v s' => ∃ b, v = .bool b ∧ Q (.bool (!b)) s') E s) : wpAny (model prog w) A (compareOp .NotEq (.ref x) (.ref y)) Q E s := by
  have hu0 : A.units < cLine := Nat.lt_of_succ_lt hu
  obtain ⟨hh, g, d, t, os⟩ := s
  have entry : ∀ {Q : Fin → Shared → Prop}, (wpAny (model prog w) A.in1 (call (.ref f) [.ref x, .ref y]) (fun v s' => ∃ b, v = .bool b ∧ Q (.done (.ret (.bool (!b)))) s') E ⟨hh, g, d, t, os⟩) →
      wpAny (model prog w) A.in1 (Builtin.«object.__ne__» ⟨[.ref x, .ref y], []⟩) Q E ⟨hh, g, d, t, os⟩ := fun {Q} hc => by
    unfold Builtin.«object.__ne__»
    repeat (first
      | with_reducible refine wpAny_cRoomFor (show A.in1.units < cLine from hu) ?_
      | (refine wpAny_bind (m := callSpecialIfBound? (.ref x) (Str.ofString "__eq__") [.ref y])
          (PySem.W.ifBound_K X I hs hf (wpAny_mono hc (fun r s' hr => by
            obtain ⟨b, rfl, hq⟩ := hr
            repeat (first | exact hq | exact wpAny_pure hq | exact wpAny_truthy_bool hq | (refine wpAny_bind (m := truthy (.bool _)) (wpAny_truthy_bool ?_)) | wp_step)) fun _ _ e => e)))
      | wp_step)
  have tryc : ∀ {Q : Option Value → Shared → Prop}, (wpAny (model prog w) A.in1 (call (.ref f) [.ref x, .ref y]) (fun v s' => ∃ b, v = .bool b ∧ Q (some (.bool (!b))) s') E ⟨hh, g, d, t, os⟩) →
      wpAny (model prog w) A (tryCompare (.ref x) "__ne__" (.ref y)) Q E ⟨hh, g, d, t, os⟩ := fun {Q} hc => by
    simp only [tryCompare]
    refine wpAny_bind (ifBound_ne X I hne (wpAny_call (codeAny_call_builtin PySem.F.cmp_object.ne.plain F.cmpEntry_ne
      (PySem.W.check_slot F.cmpKind_ne F.cmpSplit_ne (I.type.andThen (looks_mroIn X hob)) (F.cmpArgs_ne _ _) (entry (wpAny_mono hc (fun v s' hv => ?_) fun _ _ e => e))))))
    obtain ⟨b, rfl, hq⟩ := hv
    first | exact ⟨b, rfl, wpAny_pure hq⟩ | exact ⟨b, rfl, wpAny_pure (wpAny_pure hq)⟩ | exact ⟨b, rfl, hq⟩
  unfold compareOp
  unfold richCompare
  simp only [oneThing_ref]
  refine wpAny_holding ?_
  refine wpAny_bind (wpAny_cRoomFor hu0 ?_)
  rw [cmpInfo_NotEq]
  dsimp only
  refine wpAny_bind (I.type.here ?_)
  refine wpAny_bind (J.type.here ?_)
  rw [show (Value.ref C != Value.ref C) = false from by simp]
  simp only [Bool.false_eq_true, if_false]
  refine wpAny_bind (wpAny_pure ?_)
  simp only [Bool.false_eq_true, if_false]
  refine wpAny_bind (tryc (wpAny_mono h (fun v s' hv => ?_) fun _ _ e => e))
  obtain ⟨b, rfl, hq⟩ := hv
  first | exact ⟨b, rfl, wpAny_pure hq⟩ | exact ⟨b, rfl, wpAny_pure (wpAny_pure hq)⟩
end
end Z

set_option linter.all false
set_option maxRecDepth 100000
set_option maxHeartbeats 2000000
namespace Z
open PySem PySem.Spec PyProof.Rows
open L2 (V Hp HO Key VK XK TE TT TA TS TG TGs TO TI WX Cx Inv Ends SqL SqT Same upd upd_same upd_ne ne_of ne_of_none OpR UnR CallR R2 Dp DpAll IxR SlR PE PT PW PA PS PSs PG PGs PI PO PTs PK FnOk Room Vals RelV Sp EP thn)
open L2 (Takes XE BlkOk)
/-- a wish that does not look at the names -/
def WK (W : WX) : Prop := ∀ c d σ σ' H, W c d σ H → W c d σ' H
theorem wk_e {E : XK} : WK (WE E) := fun _ _ _ _ _ h => h
theorem wk_f : WK WF := fun _ _ _ _ _ h => h
section
variable {X : Cx} {NM : Nm} {TB : Hp → Prop} {W : WX} {P : Prog} {Φ Ψ : Fun} {a b c : Expr} {ia ib ic : IE} {p pos p' apos : Pos}
theorem run_fnA {k : Nat} {f : Addr} {fd : FuncData} {ps : List Str} {sp : Sp} {args : Args} {pins : List (Addr × Obj)} {σ : L2.St} {H : Hp} {s : Shared} {Q : VK} {xs : List V} {us : List Value} (F : FnOk X.prog X.w X.K X.mg X.base (L2.CX X.prog X.w) k f fd ps sp)
    (hr : Room (k + 1) X.A) (tk : Takes X W) (I : Inv X pins σ H s) (r : Vals xs us) (hb : BindsTo s fd args (ps.zip us)) (h : sp xs H Q fun c d H' => W c d σ H') : wpAny (model X.prog X.w) X.A.in1 (call (.ref f) args.pos args.kw) (EP X pins σ Q) X.xe s := by
  refine wpAny_call (codeAny_mono (F.run X.A.in1 X.stack s H args us xs Q _ hr.in1 I.env0.in1 hb r h) fun r s' hq => ?_)
  cases r with
  | error e => exact tk e s' (XE.of_call I (fun cls d H' h => h) hq)
  | ok fl =>
    cases fl with
    | ret u => exact I.after hq
    | next => exact False.elim hq
    | brk => exact False.elim hq
    | cont => exact False.elim hq
structure EqAt (X : Cx) (k : Nat) (C f : Addr) (fd : FuncData) (ps : List Str) (sp : Sp) : Prop where
  fn : FnAt X k f fd ps sp
  two : ps.length = 2
  eq : PySem.W.findIn X.K (.ref C) "__eq__" = some (some (.ref f))
  isf : PySem.W.isFn X.K (.ref f) = true
  ne : PySem.W.findIn X.K (.ref C) "__ne__" = some (some (.builtin "object.__ne__"))
  ob : PySem.W.mroIn X.K C (.type "object") = some true
def rOwn (X : Cx) (W : WX) (k : Nat) (neg : Bool) : R2 := fun v u H Q => ∃ a b C dx dy gs hs f fd ps sp, v = .ref a ∧ u = .ref b ∧ H a = some (.ins C dx gs) ∧ H b = some (.ins C dy hs) ∧ EqAt X k C f fd ps sp ∧
  ∀ σ, sp [v, u] H (fun r H' => ∃ z, r = .bl z ∧ Q (.bl (z != neg)) H') fun c d H' => W c d σ H'
theorem op_own_eq {k : Nat} (hr : Room (k + 1) X.A) (tk : Takes X W) : OpR X (compareOp .Eq) (rOwn X W k false) := by
  intro pins s σ H x y v u Q I rx ry h
  obtain ⟨a, b, C, dx, dy, gs, hs, f, fd, ps, sp, rfl, rfl, ha, hb, F, q⟩ := h
  cases rx
  cases ry
  obtain ⟨mA, J, _⟩ := L2.ins_get I.hok ha
  obtain ⟨mB, J', _⟩ := L2.ins_get I.hok hb
  obtain ⟨od, J, _⟩ := J.look
  obtain ⟨od', J', _⟩ := J'.look
  obtain ⟨m, hF⟩ := I.fr
  refine PySem.W.cmp_K (op := .Eq) (tb := .ref C) hr.units0 hF I.ok.mod.kin J J'.type (by simp [PySem.W.notFirst]) F.eq F.isf ?_
  have b0 := bind_plain (us := [.ref a, .ref b]) (ws := []) (ks := []) F.fn.plain F.fn.nd F.fn.dv (by rw [List.drop_of_length_le]; rw [F.two]; exact Nat.le_refl _) rfl (by rw [F.two]; exact Nat.le_refl _)
  rw [List.append_nil] at b0
  refine wpAny_mono (run_fnD (W := W) (σ := σ) (args := ⟨[.ref a, .ref b], []⟩) (xs := [.ref a, .ref b]) F.fn.ok (hr.mono (Nat.le_succ k)) tk I (.cons rfl (.cons rfl .nil)) (.of_eq b0) (q σ)) (fun r s' hq => ?_) fun _ _ e => e
  obtain ⟨w, H', I', rw', z, e, q'⟩ := hq
  subst e
  cases rw'
  exact ⟨.bl z, H', I', rfl, by rw [Bool.bne_false] at q'; exact q'⟩
theorem op_own_ne {k : Nat} (hr : Room (k + 1) X.A) (tk : Takes X W) : OpR X (compareOp .NotEq) (rOwn X W k true) := by
  intro pins s σ H x y v u Q I rx ry h
  obtain ⟨a, b, C, dx, dy, gs, hs, f, fd, ps, sp, rfl, rfl, ha, hb, F, q⟩ := h
  cases rx
  cases ry
  obtain ⟨mA, J, _⟩ := L2.ins_get I.hok ha
  obtain ⟨mB, J', _⟩ := L2.ins_get I.hok hb
  obtain ⟨od, J, _⟩ := J.look
  obtain ⟨od', J', _⟩ := J'.look
  have hun := hr.un
  refine ne_own (by omega) I.kIn J J' F.ne F.ob F.eq F.isf ?_
  have b0 := bind_plain (us := [.ref a, .ref b]) (ws := []) (ks := []) F.fn.plain F.fn.nd F.fn.dv (by rw [List.drop_of_length_le]; rw [F.two]; exact Nat.le_refl _) rfl (by rw [F.two]; exact Nat.le_refl _)
  rw [List.append_nil] at b0
  refine wpAny_mono (run_fnA (W := W) (σ := σ) (args := ⟨[.ref a, .ref b], []⟩) (xs := [.ref a, .ref b]) F.fn.ok hr tk I (.cons rfl (.cons rfl .nil)) (.of_eq b0) (q σ)) (fun r s' hq => ?_) fun _ _ e => e
  obtain ⟨w, H', I', rw', z, e, q'⟩ := hq
  subst e
  cases rw'
  exact ⟨z, rfl, .bl (!z), H', I', rfl, by rw [Bool.bne_true] at q'; exact q'⟩
/-- any comparison -/
def rCmpO (X : Cx) (NM : Nm) (TB : Hp → Prop) (W : WX) (k : Nat) (op : COp) : R2 := fun v u H Q => rCmp X.K NM TB op v u H Q ∨ (op = .eq ∧ rOwn X W k false v u H Q) ∨ (op = .ne ∧ rOwn X W k true v u H Q)
theorem op_cmpO {k : Nat} (hr : Room (k + 1) X.A) (tk : Takes X W) (op : COp) : OpR X (compareOp op.op) (rCmpO X NM TB W k op) := by
  intro pins s σ H x y v u Q I rx ry h
  have hun := hr.un
  rcases h with h | ⟨rfl, h⟩ | ⟨rfl, h⟩
  · exact op_cmp (NM := NM) (TB := TB) (by omega) op pins s σ H x y v u Q I rx ry h
  · exact op_own_eq hr tk pins s σ H x y v u Q I rx ry h
  · exact op_own_ne hr tk pins s σ H x y v u Q I rx ry h
theorem ownEq_some {op : COp} {d e : Dat} {f : Nat} {neg : Bool} (h : ownEq P op d e = some (f, neg)) : ∃ c fs gs q, d = .ins c fs ∧ e = .ins c gs ∧ P.clss[c]? = some q ∧ q.eq = some f ∧ ((op = .eq ∧ neg = false) ∨ (op = .ne ∧ neg = true)) := by
  cases d with
  | ins c fs =>
    have h : ((P.clss[c]?).bind fun q => q.eq.bind fun f => match op, e with
      | .eq, .ins k _ => if k = c then some (f, false) else none
      | .ne, .ins k _ => if k = c then some (f, true) else none
      | _, _ => none) = some (f, neg) := h
    cases hq : P.clss[c]? with
    | none => rw [hq] at h; cases h
    | some q =>
      rw [hq] at h
      have h : (q.eq.bind fun f => match op, e with
        | .eq, .ins k _ => if k = c then some (f, false) else none
        | .ne, .ins k _ => if k = c then some (f, true) else none
        | _, _ => none) = some (f, neg) := h
      cases he : q.eq with
      | none => rw [he] at h; cases h
      | some g =>
        rw [he] at h
        cases e with
        | ins k gs =>
          cases op with
          | eq =>
            have h : (if k = c then some (g, false) else none) = some (f, neg) := h
            by_cases hk : k = c
            · rw [if_pos hk] at h
              cases h
              subst hk
              exact ⟨_, fs, gs, q, rfl, rfl, hq, he, .inl ⟨rfl, rfl⟩⟩
            · rw [if_neg hk] at h; cases h
          | ne =>
            have h : (if k = c then some (g, true) else none) = some (f, neg) := h
            by_cases hk : k = c
            · rw [if_pos hk] at h
              cases h
              subst hk
              exact ⟨_, fs, gs, q, rfl, rfl, hq, he, .inr ⟨rfl, rfl⟩⟩
            · rw [if_neg hk] at h; cases h
          | _ => cases h
        | _ => cases op <;> cases h
  | _ => cases h
theorem EX.wk {K : PySem.W.Frag} {G : Gw} {st : St} {σ σ' : L2.St} (wk : WK W) {c fs st'} (h : EX K NM TB G st σ W c fs st') : EX K NM TB G st σ' W c fs st' := fun dd H' G' gs e r a b => wk _ _ _ _ _ (h dd H' G' gs e r a b)
theorem cmp_imp {k : Nat} (wk : WK W) (op : COp) (F : ∀ c q f, P.clss[c]? = some q → q.eq = some f → ∃ fa fd ps, EqAt X k (NM.cls c) fa fd ps (spD X.K NM TB ps.length (Ψ f)))
    {σ : L2.St} {H : Hp} {Q : VK} (h : tD X.K NM TB (ev P Φ Ψ (.cmp op ia ib)) W σ H Q) : L2.tOp (rCmpO X NM TB W k op) (tD X.K NM TB (ev P Φ Ψ ia) W) (tD X.K NM TB (ev P Φ Ψ ib) W) σ H Q := by
  obtain ⟨δ, st, G, hE, hR, hw⟩ := h
  refine seqR .refl hE hR hw fun x st1 v H1 G1 e1 _ hE1 r1 x1 hw1 => ?_
  refine seqR e1 hE1 r1 hw1 fun y st2 u H2 G2 e2 l2 hE2 r2 x2 hw2 => ?_
  cases ho : ownEq P op (view st2 (raw x)) (view st2 (raw y)) with
  | none =>
    rw [ho] at hw2
    obtain ⟨q0, hq0, hq1⟩ := wp_opt hw2
    cases hc0 : cmpop op (view st2 (raw x)) (view st2 (raw y)) with
    | none => rw [hc0] at hq0; cases hq0
    | some k2 =>
      rw [hc0] at hq0
      cases hq0
      exact .inl ⟨_, _, G2, st2, k2, r2.viewR (x1.ext l2), r2.viewR x2, r2, hc0, hq1 _ _ _ e2 r2 (RepV.toX (.bl _))⟩
  | some fn =>
    obtain ⟨f, neg⟩ := fn
    rw [ho] at hw2
    have hw2 : ((Ψ f [raw x, raw y] st2).bnd fun d s => (match d with
      | .bl k => .ok (.bl (k != neg)) s
      | _ => .stuck)).wp (KX X.K NM TB G st Q) (EX X.K NM TB G st σ W) := hw2
    obtain ⟨c, fs, gs, q, hx, hy, hq, he, hop⟩ := ownEq_some ho
    have wx := r2.viewR (x1.ext l2)
    have wy := r2.viewR x2
    rw [hx] at wx
    rw [hy] at wy
    obtain ⟨a1, dx, g1, rfl, h1, h2⟩ := wx
    obtain ⟨a2, dy, g2, rfl, h3, h4⟩ := wy
    obtain ⟨fa, fd, ps, FE⟩ := F c q f hq he
    have key : ∀ σ', spD X.K NM TB ps.length (Ψ f) [.ref a1, .ref a2] H2 (fun r H' => ∃ z, r = .bl z ∧ Q (.bl (z != neg)) H') fun c d H' => W c d σ' H' := fun σ' => by
      refine ⟨[raw x, raw y], st2, G2, by rw [FE.two]; rfl, .cons (x1.ext l2) (.cons x2 .nil), r2, ?_⟩
      cases eo : Ψ f [raw x, raw y] st2 with
      | stuck => rw [eo] at hw2; exact hw2
      | err cc gs s5 => rw [eo] at hw2; exact (EX.wk wk (EX.from e2 hw2)).sig
      | ok d s5 =>
        rw [eo] at hw2
        intro v H5 G5 e5 r5 x5
        cases d with
        | bl z =>
          have x5 : RepV X.K NM G5.F v (.bl z) := x5
          cases x5
          exact ⟨z, rfl, hw2 _ _ _ (e2.trans e5) r5 (RepV.toX (.bl _))⟩
        | _ => exact hw2.elim
    rcases hop with ⟨rfl, rfl⟩ | ⟨rfl, rfl⟩
    · exact .inr (.inl ⟨rfl, a1, a2, _, dx, dy, g1, g2, fa, fd, ps, _, rfl, rfl, h1, h3, FE, key⟩)
    · exact .inr (.inr ⟨rfl, a1, a2, _, dx, dy, g1, g2, fa, fd, ps, _, rfl, rfl, h1, h3, FE, key⟩)
theorem de_cmp {k : Nat} (wk : WK W) (op : COp) (hr : Room (k + 1) X.A) (tk : Takes X W) (F : ∀ c q f, P.clss[c]? = some q → q.eq = some f → ∃ fa fd ps, EqAt X k (NM.cls c) fa fd ps (spD X.K NM TB ps.length (Ψ f)))
    (ha : DE X NM TB W P Φ Ψ a ia) (hb : DE X NM TB W P Φ Ψ b ib) (hm : behindInMarks op.op b = false) : DE X NM TB W P Φ Ψ (.Compare a [op.op] [b] pos) (.cmp op ia ib) :=
  PE.imp (L2.pe_cmpR (op_cmpO (NM := NM) (TB := TB) hr tk op) ha hb hm) fun σ H Q h => cmp_imp wk op F h
theorem cmp_bl {op : COp} {δ : Env} {s s' : St} {d : Dat} (h : ev P Φ Ψ (.cmp op ia ib) δ s = .ok d s') : ∃ k, d = .bl k := by
  obtain ⟨x, s1, h1, h2⟩ := Res.bnd_ok_inv (show (ev P Φ Ψ ia δ s).bnd (fun x s => (ev P Φ Ψ ib δ s).bnd fun y s => match ownEq P op (view s (raw x)) (view s (raw y)) with
    | some (f, neg) => (Ψ f [raw x, raw y] s).bnd fun d s => (match d with
      | .bl k => .ok (.bl (k != neg)) s
      | _ => .stuck)
    | none => opt ((cmpop op (view s (raw x)) (view s (raw y))).map .bl) s) = .ok d s' from h)
  obtain ⟨y, s2, h3, h4⟩ := Res.bnd_ok_inv h2
  cases ho : ownEq P op (view s2 (raw x)) (view s2 (raw y)) with
  | none =>
    rw [ho] at h4
    have h5 := (opt_inv h4).1
    cases hc : cmpop op (view s2 (raw x)) (view s2 (raw y)) with
    | none => rw [hc] at h5; cases h5
    | some k => rw [hc] at h5; cases h5; exact ⟨k, rfl⟩
  | some fn =>
    obtain ⟨f, neg⟩ := fn
    rw [ho] at h4
    obtain ⟨z, s3, h5, h6⟩ := Res.bnd_ok_inv h4
    cases z with
    | bl k => cases h6; exact ⟨_, rfl⟩
    | _ => cases h6
/-- as a test -/
theorem val_bl {i : IE} (hi : ∀ {δ : Env} {s s' : St} {d : Dat}, ev P Φ Ψ i δ s = .ok d s' → ∃ k, d = .bl k) {σ : L2.St} {H : Hp} {Q : Bool → Hp → Prop} (h : tTs X.K NM TB (evT P Φ Ψ (.val i)) W σ H Q) : tD X.K NM TB (ev P Φ Ψ i) W σ H fun x H' => ∃ k, x = .bl k ∧ Q k H' := by
  obtain ⟨δ, st, G, hE, hR, hw⟩ := h
  have hw : ((ev P Φ Ψ i δ st).bnd fun x s => opt (truth (view s (raw x))) s).wp (KT X.K NM TB G st Q) (EX X.K NM TB G st σ W) := hw
  refine ⟨δ, st, G, hE, hR, ?_⟩
  cases e : ev P Φ Ψ i δ st with
  | stuck => rw [e] at hw; exact hw
  | err c fs s => rw [e] at hw; exact hw
  | ok d s =>
    rw [e] at hw
    obtain ⟨k, rfl⟩ := hi e
    intro v H' G' e1 r1 x1
    have x1 : RepV X.K NM G'.F v (.bl k) := x1
    cases x1
    exact ⟨k, rfl, hw H' G' e1 r1⟩
theorem dt_cmp {k : Nat} (wk : WK W) (op : COp) (hr : Room (k + 1) X.A) (tk : Takes X W) (F : ∀ c q f, P.clss[c]? = some q → q.eq = some f → ∃ fa fd ps, EqAt X k (NM.cls c) fa fd ps (spD X.K NM TB ps.length (Ψ f)))
    (ha : DE X NM TB W P Φ Ψ a ia) (hb : DE X NM TB W P Φ Ψ b ib) (hm : behindInMarks op.op b = false) : DT X NM TB W P Φ Ψ (.Compare a [op.op] [b] pos) (.val (.cmp op ia ib)) :=
  PT.imp (L2.pt_cmpR (op_cmpO (NM := NM) (TB := TB) hr tk op) ha hb hm) fun σ H Q h => cmp_imp wk op F (val_bl cmp_bl h)
theorem chain_bl {op op2 : COp} {δ : Env} {s s' : St} {d : Dat} (h : ev P Φ Ψ (.chain op op2 ia ib ic) δ s = .ok d s') : ∃ k, d = .bl k := by
  obtain ⟨x, s1, h1, h2⟩ := Res.bnd_ok_inv (show (ev P Φ Ψ ia δ s).bnd (fun x s => (ev P Φ Ψ ib δ s).bnd fun y s => (opt (cmpop op (view s (raw x)) (view s (raw y))) s).bnd fun k s =>
      if k = true then (ev P Φ Ψ ic δ s).bnd fun z s => opt ((cmpop op2 (view s (raw y)) (view s (raw z))).map .bl) s else .ok (.bl false) s) = .ok d s' from h)
  obtain ⟨y, s2, h3, h4⟩ := Res.bnd_ok_inv h2
  obtain ⟨k, s3, h5, h6⟩ := Res.bnd_ok_inv h4
  cases k with
  | false => cases h6; exact ⟨_, rfl⟩
  | true =>
    obtain ⟨z, s4, h7, h8⟩ := Res.bnd_ok_inv (show (ev P Φ Ψ ic δ s3).bnd (fun z s => opt ((cmpop op2 (view s (raw y)) (view s (raw z))).map .bl) s) = .ok d s' from h6)
    have h5 := (opt_inv h8).1
    cases hc : cmpop op2 (view s4 (raw y)) (view s4 (raw z)) with
    | none => rw [hc] at h5; cases h5
    | some k => rw [hc] at h5; cases h5; exact ⟨k, rfl⟩
theorem dt_chain (hu : X.A.units + 65 < cLine) (op op2 : COp) (ha : DE X NM TB W P Φ Ψ a ia) (hb : DE X NM TB W P Φ Ψ b ib) (hc : DE X NM TB W P Φ Ψ c ic) (hm : lastMarks [op.op, op2.op] [b, c] = false) :
    DT X NM TB W P Φ Ψ (.Compare a [op.op, op2.op] [b, c] pos) (.val (.chain op op2 ia ib ic)) :=
  PT.imp (L2.pt_chain (op_cmp (NM := NM) (TB := TB) hu op) (op_cmp (NM := NM) (TB := TB) hu op2) ha hb hc hm) fun σ H Q h => chain_imp op op2 (val_bl chain_bl h)
end
end Z

set_option linter.all false
set_option maxRecDepth 100000
set_option maxHeartbeats 2000000
namespace Z
open PySem PySem.Spec PyProof.Rows
open L2 (V Hp HO Key VK XK TE TT TA TS TG TGs TO TI WX Cx Inv Ends SqL SqT Same upd upd_same upd_ne ne_of ne_of_none OpR UnR CallR R2 Dp DpAll IxR SlR PE PT PW PA PS PSs PG PGs PI PO PTs PK FnOk Room Vals RelV Sp EP thn)
open L2 (Takes XE BlkOk)
theorem bnd_assoc {α β γ : Type} {r : Res α} {f : α → St → Res β} {g : β → St → Res γ} : (r.bnd f).bnd g = r.bnd fun a s => (f a s).bnd g := by cases r <;> rfl
section
variable {X : Cx} {NM : Nm} {TB : Hp → Prop} {W : WX} {P : Prog} {Φ Ψ : Fun} {a b c : Expr} {ia ib ic : IE} {p pos p' apos : Pos}
/-- a built-in's reading -/
def rBi (K : PySem.W.Frag) (NM : Nm) (TB : Hp → Prop) (g : Dat → Option Dat) : List V → Hp → VK → Prop := fun xs H Q => ∃ v x G st z, xs = [v] ∧ RW K NM G H v x ∧ Rp K NM TB G H st ∧ g x = some z ∧ Give K NM TB G st z Q
theorem bi_len : CallR X (.builtin "len") (rBi X.K NM TB (biD .len)) := by
  intro pins s σ H xs us Q I r h
  obtain ⟨v, x, G, st, z, rfl, hx, hr, hg, g⟩ := h
  cases x with
  | lst ds =>
    cases hg
    obtain ⟨a, ws, rfl, h1, h2⟩ := hx
    refine L2.call_len pins s σ H _ us Q I r ⟨_, ws.length, rfl, .inl ⟨ws, SqL.of h1, rfl⟩, ?_⟩
    rw [h2.length]
    exact g.data hr (.int _)
  | tup ds =>
    cases hg
    obtain ⟨a, ws, rfl, h1, h2⟩ := rw_tup hx
    refine L2.call_len pins s σ H _ us Q I r ⟨_, ws.length, rfl, .inr ⟨ws, SqT_mono hr.sub h1, rfl⟩, ?_⟩
    rw [h2.length]
    exact g.data hr (.int _)
  | rol ns =>
    cases hg
    obtain ⟨a, rfl, h1⟩ := rw_rol hx
    refine L2.call_len pins s σ H _ us Q I r ⟨_, ns.length, rfl, .inl ⟨_, SqL_mono hr.sub h1, by rw [List.length_map]⟩, ?_⟩
    exact g.data hr (.int _)
  | str y =>
    have hg : (if big y.length then some (Dat.int y.length) else none) = some z := hg
    by_cases hz : big y.length = true
    · rw [if_pos hz] at hg
      cases hg
      rw [rw_str hx] at r
      exact L2.call_len pins s σ H _ us Q I r ⟨_, y.length, rfl, ⟨le_line hz, rfl⟩, g.data hr (.int _)⟩
    · rw [if_neg hz] at hg; cases hg
  | _ => cases hg
theorem bi_abs : CallR X (.builtin "abs") (rBi X.K NM TB (biD .abs)) := by
  intro pins s σ H xs us Q I r h
  obtain ⟨v, x, G, st, z, rfl, hx, hr, hg, g⟩ := h
  cases x with
  | int i =>
    cases hg
    rw [rw_int hx] at r
    exact L2.call_abs pins s σ H _ us Q I r ⟨i, rfl, g.data hr (.int _)⟩
  | _ => cases hg
theorem bi_int : CallR X (.type "int") (rBi X.K NM TB (biD .int)) := by
  intro pins s σ H xs us Q I r h
  obtain ⟨v, x, G, st, z, rfl, hx, hr, hg, g⟩ := h
  cases x with
  | int i =>
    cases hg
    rw [rw_int hx] at r
    exact L2.call_int1 pins s σ H _ us Q I r (.inl ⟨i, rfl, g.data hr (.int _)⟩)
  | bl k =>
    cases hg
    rw [rw_bl hx] at r
    exact L2.call_int1 pins s σ H _ us Q I r (.inr ⟨k, rfl, g.data hr (.int _)⟩)
  | _ => cases hg
theorem bi_bool : CallR X (.type "bool") (rBi X.K NM TB (biD .bool)) := by
  intro pins s σ H xs us Q I r h
  obtain ⟨v, x, G, st, z, rfl, hx, hr, hg, g⟩ := h
  cases x with
  | int i =>
    cases hg
    rw [rw_int hx] at r
    exact L2.call_bool1 pins s σ H _ us Q I r (.inl ⟨i, rfl, g.data hr (.bl _)⟩)
  | bl k =>
    cases hg
    rw [rw_bl hx] at r
    exact L2.call_bool1 pins s σ H _ us Q I r (.inr ⟨k, rfl, g.data hr (.bl _)⟩)
  | _ => cases hg
theorem bi_any (hc : X.calm = true) : CallR X (.builtin "any") (rBi X.K NM TB (biD .any)) := by
  intro pins s σ H xs us Q I r h
  obtain ⟨v, x, G, st, z, rfl, hx, hr, hg, g⟩ := h
  cases x with
  | lst ds =>
    obtain ⟨a, ws, rfl, h1, h2⟩ := hx
    have hg : (isBls ds).map (fun bs => Dat.bl (bs.any id)) = some z := hg
    cases hb : isBls ds with
    | none => rw [hb] at hg; cases hg
    | some bs =>
      rw [hb] at hg
      cases hg
      obtain ⟨e1, e2⟩ := h2.of_bls hb
      subst e1
      exact L2.cr_any hc pins s σ H _ us Q I r ⟨a, bs, rfl, SqL.of h1, g.data hr (.bl _)⟩
  | _ => cases hg
theorem bi_all (hc : X.calm = true) : CallR X (.builtin "all") (rBi X.K NM TB (biD .all)) := by
  intro pins s σ H xs us Q I r h
  obtain ⟨v, x, G, st, z, rfl, hx, hr, hg, g⟩ := h
  cases x with
  | lst ds =>
    obtain ⟨a, ws, rfl, h1, h2⟩ := hx
    have hg : (isBls ds).map (fun bs => Dat.bl (bs.all id)) = some z := hg
    cases hb : isBls ds with
    | none => rw [hb] at hg; cases hg
    | some bs =>
      rw [hb] at hg
      cases hg
      obtain ⟨e1, e2⟩ := h2.of_bls hb
      subst e1
      exact L2.cr_all hc pins s σ H _ us Q I r ⟨a, bs, rfl, SqL.of h1, g.data hr (.bl _)⟩
  | _ => cases hg
theorem bi_list (tp : TbP TB) : CallR X (.type "list") (rBi X.K NM TB (biD .list)) := by
  intro pins s σ H xs us Q I r h
  obtain ⟨v, x, G, st, z, rfl, hx, hr, hg, g⟩ := h
  cases x with
  | lst ds =>
    cases hg
    obtain ⟨a, ws, rfl, h1, h2⟩ := hx
    exact L2.call_list_of pins s σ H _ us Q I r ⟨a, ws, rfl, .inl (SqL.of h1), fun l hl => g.newLst tp hr h2 hl⟩
  | tup ds =>
    cases hg
    obtain ⟨a, ws, rfl, h1, h2⟩ := rw_tup hx
    exact L2.call_list_of pins s σ H _ us Q I r ⟨a, ws, rfl, .inr (SqT_mono hr.sub h1), fun l hl => g.newLst tp hr h2 hl⟩
  | _ => cases hg
theorem bi_tuple (tp : TbP TB) : CallR X (.type "tuple") (rBi X.K NM TB (biD .tuple)) := by
  intro pins s σ H xs us Q I r h
  obtain ⟨v, x, G, st, z, rfl, hx, hr, hg, g⟩ := h
  cases x with
  | lst ds =>
    cases hg
    obtain ⟨a, ws, rfl, h1, h2⟩ := hx
    exact L2.call_tuple_of pins s σ H _ us Q I r ⟨a, ws, rfl, .inl ⟨SqL.of h1, fun l hl => g.newTup tp hr h2 hl⟩⟩
  | tup ds =>
    cases hg
    have hx' := hx
    obtain ⟨a, ws, rfl, h1, h2⟩ := rw_tup hx
    exact L2.call_tuple_of pins s σ H _ us Q I r ⟨a, ws, rfl, .inr ⟨SqT_mono hr.sub h1, g.data hr (.tup h1 h2)⟩⟩
  | _ => cases hg
theorem maxI_le : ∀ {r : List Int} {x m : Int}, r.foldl (fun a b => if b > a then b else a) x = m → (m = x ∨ m ∈ r) ∧ x ≤ m ∧ ∀ y ∈ r, y ≤ m
  | [], x, m, h => by
    have h : x = m := h
    subst h
    exact ⟨.inl rfl, Int.le_refl _, fun y hy => by cases hy⟩
  | z :: r, x, m, h => by
    have h : r.foldl (fun a b => if b > a then b else a) (if z > x then z else x) = m := h
    obtain ⟨h1, h2, h3⟩ := maxI_le h
    by_cases q : z > x
    · rw [if_pos q] at h1 h2
      refine ⟨.inr ?_, by omega, fun y hy => ?_⟩
      · rcases h1 with h1 | h1
        · rw [h1]; exact List.mem_cons_self
        · exact List.mem_cons_of_mem _ h1
      · rcases List.mem_cons.mp hy with e | hy
        · rw [e]; exact h2
        · exact h3 y hy
    · rw [if_neg q] at h1 h2
      refine ⟨?_, h2, fun y hy => ?_⟩
      · rcases h1 with h1 | h1
        · exact .inl h1
        · exact .inr (List.mem_cons_of_mem _ h1)
      · rcases List.mem_cons.mp hy with e | hy
        · rw [e]; omega
        · exact h3 y hy
theorem minI_le : ∀ {r : List Int} {x m : Int}, r.foldl (fun a b => if b < a then b else a) x = m → (m = x ∨ m ∈ r) ∧ m ≤ x ∧ ∀ y ∈ r, m ≤ y
  | [], x, m, h => by
    have h : x = m := h
    subst h
    exact ⟨.inl rfl, Int.le_refl _, fun y hy => by cases hy⟩
  | z :: r, x, m, h => by
    have h : r.foldl (fun a b => if b < a then b else a) (if z < x then z else x) = m := h
    obtain ⟨h1, h2, h3⟩ := minI_le h
    by_cases q : z < x
    · rw [if_pos q] at h1 h2
      refine ⟨.inr ?_, by omega, fun y hy => ?_⟩
      · rcases h1 with h1 | h1
        · rw [h1]; exact List.mem_cons_self
        · exact List.mem_cons_of_mem _ h1
      · rcases List.mem_cons.mp hy with e | hy
        · rw [e]; exact h2
        · exact h3 y hy
    · rw [if_neg q] at h1 h2
      refine ⟨?_, h2, fun y hy => ?_⟩
      · rcases h1 with h1 | h1
        · exact .inl h1
        · exact .inr (List.mem_cons_of_mem _ h1)
      · rcases List.mem_cons.mp hy with e | hy
        · rw [e]; omega
        · exact h3 y hy
theorem bi_max (hc : X.calm = true) : CallR X (.builtin "max") (rBi X.K NM TB (biD .max)) := by
  intro pins s σ H xs us Q I r h
  obtain ⟨v, x, G, st, z, rfl, hx, hr, hg, g⟩ := h
  cases x with
  | lst ds =>
    obtain ⟨a, ws, rfl, h1, h2⟩ := hx
    have hg : ((isInts ds).bind fun ns => (maxI ns).map Dat.int) = some z := hg
    cases hb : isInts ds with
    | none => rw [hb] at hg; cases hg
    | some ns =>
      rw [hb] at hg
      obtain ⟨e1, e2⟩ := h2.of_ints hb
      subst e1
      cases ns with
      | nil => cases hg
      | cons n ns =>
        cases hg
        obtain ⟨m1, m2, m3⟩ := maxI_le (r := ns) (x := n) rfl
        refine L2.cr_max hc pins s σ H _ us Q I r ⟨a, n :: ns, rfl, SqL.of h1, Nat.succ_pos _, fun m hm hall => ?_⟩
        have e : m = ns.foldl (fun a b => if b > a then b else a) n := by
          have h3 := hall _ (m1.elim (fun e => by rw [e]; exact List.mem_cons_self) fun e => List.mem_cons_of_mem _ e)
          rcases List.mem_cons.mp hm with e | e
          · subst e; omega
          · have := m3 m e; omega
        rw [e]
        exact g.data hr (.int _)
  | _ => cases hg
theorem bi_min (hc : X.calm = true) : CallR X (.builtin "min") (rBi X.K NM TB (biD .min)) := by
  intro pins s σ H xs us Q I r h
  obtain ⟨v, x, G, st, z, rfl, hx, hr, hg, g⟩ := h
  cases x with
  | lst ds =>
    obtain ⟨a, ws, rfl, h1, h2⟩ := hx
    have hg : ((isInts ds).bind fun ns => (minI ns).map Dat.int) = some z := hg
    cases hb : isInts ds with
    | none => rw [hb] at hg; cases hg
    | some ns =>
      rw [hb] at hg
      obtain ⟨e1, e2⟩ := h2.of_ints hb
      subst e1
      cases ns with
      | nil => cases hg
      | cons n ns =>
        cases hg
        obtain ⟨m1, m2, m3⟩ := minI_le (r := ns) (x := n) rfl
        refine L2.cr_min hc pins s σ H _ us Q I r ⟨a, n :: ns, rfl, SqL.of h1, Nat.succ_pos _, fun m hm hall => ?_⟩
        have e : m = ns.foldl (fun a b => if b < a then b else a) n := by
          have h3 := hall _ (m1.elim (fun e => by rw [e]; exact List.mem_cons_self) fun e => List.mem_cons_of_mem _ e)
          rcases List.mem_cons.mp hm with e | e
          · subst e; omega
          · have := m3 m e; omega
        rw [e]
        exact g.data hr (.int _)
  | _ => cases hg
theorem de_biB {id : String} {x : Str} {bb : BI} (hc : CallR X (.builtin id) (rBi X.K NM TB (biD bb))) (hg : L2.Gl X x) (hm : X.mg x = none) (hv : bootBuiltins x = some (.builtin id)) (hn : x ≠ "__name__") (hdb : (x == ("__debug__" : Str)) = false) (ha : DE X NM TB W P Φ Ψ a ia) (ns : isStar a = false) :
    DE X NM TB W P Φ Ψ (.Call (.Name x p) [a] [] pos) (.bi bb ia) := by
  refine PE.imp (L2.pe_callB hc hg hm hv (L2.pa_cons ha L2.pa_nil (star_cons ns)) hn hdb (star_cons ns) rfl) fun σ H Q ⟨δ, st, G, hE, hR, hw⟩ => ?_
  refine seqR .refl hE hR hw fun x st1 v H1 G1 e1 _ hE1 r1 x1 hw1 => ?_
  obtain ⟨z, hz, q⟩ := wp_opt hw1
  exact ⟨v, _, G1, st1, z, rfl, r1.viewR x1, r1, hz, KX.give e1 q⟩
theorem de_biT {T : String} {x : Str} {bb : BI} (hc : CallR X (.type T) (rBi X.K NM TB (biD bb))) (hg : L2.Gl X x) (hm : X.mg x = none) (hv : bootBuiltins x = some (.type T)) (hn : x ≠ "__name__") (hdb : (x == ("__debug__" : Str)) = false) (ha : DE X NM TB W P Φ Ψ a ia) (ns : isStar a = false) :
    DE X NM TB W P Φ Ψ (.Call (.Name x p) [a] [] pos) (.bi bb ia) := by
  refine PE.imp (L2.pe_callTy hc hg hm hv (L2.pa_cons ha L2.pa_nil (star_cons ns)) hn hdb (star_cons ns) rfl) fun σ H Q ⟨δ, st, G, hE, hR, hw⟩ => ?_
  refine seqR .refl hE hR hw fun x st1 v H1 G1 e1 _ hE1 r1 x1 hw1 => ?_
  obtain ⟨z, hz, q⟩ := wp_opt hw1
  exact ⟨v, _, G1, st1, z, rfl, r1.viewR x1, r1, hz, KX.give e1 q⟩
/-- list(range(n)) -/
theorem de_listRg {p1 p2 pos2 : Pos} (tp : TbP TB) (hc : X.calm = true) (hg : L2.Gl X "list") (hm : X.mg "list" = none) (hg2 : L2.Gl X "range") (hm2 : X.mg "range" = none) (ha : DE X NM TB W P Φ Ψ a ia) (ns : isStar a = false) :
    DE X NM TB W P Φ Ψ (.Call (.Name "list" p1) [.Call (.Name "range" p2) [a] [] pos2] [] pos) (.bi .list (.range ia)) := by
  refine PE.imp (L2.pe_listRg hc hg hm (L2.prg_1 hg2 hm2 ha (star_cons ns)) rfl) fun σ H Q ⟨δ, st, G, hE, hR, hw⟩ => ?_
  have hw : (((ev P Φ Ψ ia δ st).bnd fun x s => match x with
    | .int j => if rngOk j && big j.toNat then .ok (.fl (rngD 0 j)) s else .stuck
    | _ => .stuck).bnd fun x s => opt (biD .list (view s (raw x))) s).wp (KX X.K NM TB G st Q) (EX X.K NM TB G st σ W) := hw
  rw [bnd_assoc] at hw
  refine seqD .refl hE hR hw fun x st1 v H1 G1 e1 _ hE1 r1 x1 hw1 => ?_
  cases x with
  | int j =>
    have hw1 : ((if (rngOk j && big j.toNat) = true then (Res.ok (.fl (rngD 0 j)) st1 : Res Dat) else .stuck).bnd fun x s => opt (biD .list (view s (raw x))) s).wp (KX X.K NM TB G st Q) (EX X.K NM TB G st σ W) := hw1
    by_cases hj : (rngOk j && big j.toNat) = true
    · rw [if_pos hj] at hw1
      rw [Bool.and_eq_true] at hj
      obtain ⟨h1, h2⟩ := rngOk_iff hj.1
      have h3 : j.toNat ≤ 16777216 := Nat.le_of_ble_eq_true hj.2
      refine ⟨j, rx_int x1, ⟨by omega, by omega, h1, h2, by omega⟩, fun q hq => ?_⟩
      have hw1 : KX X.K NM TB G st Q (.fl (rngD 0 j)) st1 := hw1
      refine (KX.give e1 hw1).newLst tp r1 ?_ hq
      have e : L2.rgV 0 j = ((List.range (j - 0).toNat).map fun k : Nat => (0 + (k : Int))).map V.int := by
        unfold L2.rgV
        rw [List.map_map]
        rfl
      have e2 : rngD 0 j = ((List.range (j - 0).toNat).map fun k : Nat => (0 + (k : Int))).map Dat.int := by
        unfold rngD
        rw [List.map_map]
        rfl
      rw [e, e2]
      exact RepVs.ints _
    · rw [if_neg hj] at hw1
      exact hw1.elim
  | _ => exact hw1.elim
/-- max, min of two -/
theorem de_max2 (hc : X.calm = true) (hg : L2.Gl X "max") (hm : X.mg "max" = none) (ha : DE X NM TB W P Φ Ψ a ia) (hb : DE X NM TB W P Φ Ψ b ib) (n1 : isStar a = false) (n2 : isStar b = false) : DE X NM TB W P Φ Ψ (.Call (.Name "max" p) [a, b] [] pos) (.bi2 .max ia ib) := by
  refine PE.imp (L2.pe_callB (L2.call_max2 hc) hg hm (by first | exact PyProof.Rows.boot_max | rfl) (L2.pa_cons ha (L2.pa_cons hb L2.pa_nil (star_cons n2)) (star_cons n1)) (by decide) (by decide) (star_cons n1) (star_any (es := [b]) (by simp [noStars, n2]))) fun σ H Q ⟨δ, st, G, hE, hR, hw⟩ => ?_
  refine seqR .refl hE hR hw fun x st1 v H1 G1 e1 _ hE1 r1 x1 hw1 => ?_
  refine seqR e1 hE1 r1 hw1 fun y st2 u H2 G2 e2 l2 hE2 r2 x2 hw2 => ?_
  obtain ⟨z, hz, q⟩ := wp_opt hw2
  have wx := r2.viewR (x1.ext l2)
  have wy := r2.viewR x2
  cases hx : view st2 (raw x) with
  | int i =>
    cases hy : view st2 (raw y) with
    | int j =>
      rw [hx, hy] at hz
      rw [hx] at wx
      rw [hy] at wy
      cases hz
      exact ⟨i, j, by rw [rw_int wx, rw_int wy], q _ _ _ e2 r2 (RepV.toX (.int _))⟩
    | _ => rw [hx, hy] at hz; cases hz
  | _ => rw [hx] at hz; cases hz
theorem de_min2 (hc : X.calm = true) (hg : L2.Gl X "min") (hm : X.mg "min" = none) (ha : DE X NM TB W P Φ Ψ a ia) (hb : DE X NM TB W P Φ Ψ b ib) (n1 : isStar a = false) (n2 : isStar b = false) : DE X NM TB W P Φ Ψ (.Call (.Name "min" p) [a, b] [] pos) (.bi2 .min ia ib) := by
  refine PE.imp (L2.pe_callB (L2.call_min2 hc) hg hm (by first | exact PyProof.Rows.boot_min | rfl) (L2.pa_cons ha (L2.pa_cons hb L2.pa_nil (star_cons n2)) (star_cons n1)) (by decide) (by decide) (star_cons n1) (star_any (es := [b]) (by simp [noStars, n2]))) fun σ H Q ⟨δ, st, G, hE, hR, hw⟩ => ?_
  refine seqR .refl hE hR hw fun x st1 v H1 G1 e1 _ hE1 r1 x1 hw1 => ?_
  refine seqR e1 hE1 r1 hw1 fun y st2 u H2 G2 e2 l2 hE2 r2 x2 hw2 => ?_
  obtain ⟨z, hz, q⟩ := wp_opt hw2
  have wx := r2.viewR (x1.ext l2)
  have wy := r2.viewR x2
  cases hx : view st2 (raw x) with
  | int i =>
    cases hy : view st2 (raw y) with
    | int j =>
      rw [hx, hy] at hz
      rw [hx] at wx
      rw [hy] at wy
      cases hz
      exact ⟨i, j, by rw [rw_int wx, rw_int wy], q _ _ _ e2 r2 (RepV.toX (.int _))⟩
    | _ => rw [hx, hy] at hz; cases hz
  | _ => rw [hx] at hz; cases hz
end
end Z

set_option linter.all false
set_option maxRecDepth 100000
set_option maxHeartbeats 2000000
namespace Z
open PySem PySem.Spec PyProof.Rows
open L2 (V Hp HO Key VK XK TE TT TA TS TG TGs TO TI WX Cx Inv Ends SqL SqT Same upd upd_same upd_ne ne_of ne_of_none OpR UnR CallR R2 Dp DpAll IxR SlR PE PT PW PA PS PSs PG PGs PI PO PTs PK FnOk Room Vals RelV Sp EP thn)
open L2 (Takes XE BlkOk)
def tyNs : List String := ["NoneType", "bool", "int", "str", "list", "tuple", "dict"]
def tn : Dat → Option String
  | .non => some "NoneType" | .bl _ => some "bool" | .int _ => some "int" | .str _ => some "str" | .lst _ => some "list" | .rol _ => some "list" | .tup _ => some "tuple" | .dic _ => some "dict"
  | _ => none
def ansT (n : String) : CR → Bool
  | .ty m => m == n || (n == "bool" && m == "int")
  | .own _ => false
def ansC (P : Prog) (k : Nat) : CR → Bool
  | .ty _ => false
  | .own c => (match P.clss[k]? with
    | some q => decide (k = c) || q.up.contains c
    | none => false)
def crV (NM : Nm) : CR → Value
  | .ty n => .type n
  | .own c => .ref (NM.cls c)
def crW (NM : Nm) : CR → V
  | .ty n => .ty n
  | .own c => .ref (NM.cls c)
theorem cr_clsV (NM : Nm) (cr : CR) : L2.ClsV (crW NM cr) (crV NM cr) := by
  cases cr with
  | ty n => exact .ty n
  | own c => exact .own _
/-- a class in an isinstance -/
structure IsOk (K : PySem.W.Frag) (NM : Nm) (P : Prog) (cr : CR) : Prop where
  base : ∀ n ∈ tyNs, PySem.W.kitOne K (.type n) (crV NM cr) = some (ansT n cr)
  own : ∀ c, plainC P c = true → PySem.W.kitOne K (.ref (NM.cls c)) (crV NM cr) = some (ansC P c cr)
/-- an instance's class in an isinstance -/
structure InsOk (K : PySem.W.Frag) (C : Addr) : Prop where
  cl : L2.Cls K C
  ha : PySem.W.findIn K (.ref C) "__class__" = some (some (.builtin "object.__class__"))
  hn : PySem.W.specialIn K (.builtin "object.__class__") "__get__" = some (some (.builtin "getset_descriptor.__get__"))
  ht : PySem.W.takesIn K (.builtin "object.__class__") = some true
  hm : PySem.W.mroIn K C (.type "object") = some true
section
variable {X : Cx} {NM : Nm} {TB : Hp → Prop} {W : WX} {P : Prog} {Φ Ψ : Fun} {a b c : Expr} {ia ib ic : IE} {p pos p' apos : Pos}
theorem sqL_ty {K : PySem.W.Frag} {H : Hp} {a : Addr} {xs : List V} (h : SqL K H a xs) : L2.TyX K H (.ref a) (.type "list") := by
  rcases h with (h | ⟨o, h⟩) | h
  · exact .base (.lst h)
  · exact .base (.frz h)
  · obtain ⟨o, its, n, h1, h2, _⟩ := h
    exact .kList h1 h2
theorem sqT_ty {K : PySem.W.Frag} {H : Hp} {a : Addr} {xs : List V} (h : SqT K H a xs) : L2.TyX K H (.ref a) (.type "tuple") := by
  rcases h with (h | ⟨o, h⟩) | h
  · exact .base (.tup h)
  · exact .fTuple h
  · obtain ⟨o, its, n, h1, h2, _⟩ := h
    exact .kTuple h1 h2
theorem ans_ty {K : PySem.W.Frag} {G : Gw} {H : Hp} {st : St} {v : V} {d : Dat} (io : ∀ c, plainC P c = true → InsOk K (NM.cls c)) (r : Rp K NM TB G H st) (x : RW K NM G H v d) (h : isiOk P d = true) :
    ∃ t, L2.TyX K H v t ∧ ∀ cr, IsOk K NM P cr → PySem.W.kitOne K t (crV NM cr) = some (isiD P d cr) := by
  have B : ∀ n ∈ tyNs, ∀ cr, IsOk K NM P cr → ansT n cr = isiD P d cr → PySem.W.kitOne K (.type n) (crV NM cr) = some (isiD P d cr) := fun n hn cr ok e => by rw [ok.base n hn, e]
  cases d with
  | non => rw [rw_non x]; exact ⟨_, .base .non, fun cr ok => B "NoneType" (by decide) cr ok (by cases cr <;> simp [ansT, isiD, tyIs])⟩
  | bl k => rw [rw_bl x]; exact ⟨_, .base (.bl _), fun cr ok => B "bool" (by decide) cr ok (by cases cr <;> simp [ansT, isiD, tyIs])⟩
  | int k => rw [rw_int x]; exact ⟨_, .base (.int _), fun cr ok => B "int" (by decide) cr ok (by cases cr <;> simp [ansT, isiD, tyIs])⟩
  | str k => rw [rw_str x]; exact ⟨_, .base (.str _), fun cr ok => B "str" (by decide) cr ok (by cases cr <;> simp [ansT, isiD, tyIs])⟩
  | lst ds =>
    obtain ⟨a, xs, rfl, h1, h2⟩ := x
    exact ⟨_, .base (.lst h1), fun cr ok => B "list" (by decide) cr ok (by cases cr <;> simp [ansT, isiD, tyIs])⟩
  | tup ds =>
    obtain ⟨a, xs, rfl, h1, h2⟩ := rw_tup x
    exact ⟨_, sqT_ty (SqT_mono r.sub h1), fun cr ok => B "tuple" (by decide) cr ok (by cases cr <;> simp [ansT, isiD, tyIs])⟩
  | rol ns =>
    obtain ⟨a, rfl, h1⟩ := rw_rol x
    exact ⟨_, sqL_ty (SqL_mono r.sub h1), fun cr ok => B "list" (by decide) cr ok (by cases cr <;> simp [ansT, isiD, tyIs])⟩
  | dic kvs =>
    obtain ⟨a, xs, rfl, h1, h2⟩ := x
    exact ⟨_, .base (.dK h1), fun cr ok => B "dict" (by decide) cr ok (by cases cr <;> simp [ansT, isiD, tyIs])⟩
  | ins c fs =>
    obtain ⟨a, dx, gs, rfl, h1, h2⟩ := x
    have hc : plainC P c = true := h
    obtain ⟨i1, i2, i3, i4, i5⟩ := io c hc
    refine ⟨_, .base (.ins h1 i1 i2 i3 i4 i5), fun cr ok => ?_⟩
    rw [ok.own c hc]
    cases cr <;> rfl
  | _ => cases h
theorem kit_any {K : PySem.W.Frag} {t : Value} {f : CR → Bool} : ∀ {cs : List CR}, (∀ cr ∈ cs, PySem.W.kitOne K t (crV NM cr) = some (f cr)) → PySem.W.kitAny K t (cs.map (crV NM)) = some (cs.any f)
  | [], _ => rfl
  | cr :: cs, h => by
    have h1 := h cr List.mem_cons_self
    have ih := kit_any (K := K) (t := t) (f := f) (cs := cs) fun x m => h x (List.mem_cons_of_mem _ m)
    rw [List.map_cons, List.any_cons]
    unfold PySem.W.kitAny
    rw [h1]
    cases f cr with
    | true => rfl
    | false => rw [Bool.false_or]; exact ih
/-- the classes written -/
inductive CrE (X : Cx) (NM : Nm) : Expr → CR → Prop
  | ty {x : Str} {n : String} {pos : Pos} (hg : L2.Gl X x) (hm : X.mg x = none) (hv : bootBuiltins x = some (.type n)) (hn : x ≠ "__name__") (hd : (x == ("__debug__" : Str)) = false) : CrE X NM (.Name x pos) (.ty n)
  | own {x : Str} {c : Nat} {pos : Pos} (hg : L2.Gl X x) (hm : X.mg x = some (.ref (NM.cls c))) (hd : (x == ("__debug__" : Str)) = false) : CrE X NM (.Name x pos) (.own c)
theorem cr_pe {e : Expr} {cr : CR} (h : CrE X NM e cr) : PE X e (L2.tC (crW NM cr)) := by
  cases h with
  | ty hg hm hv hn hd => exact L2.pe_bltn hg hm hv rfl hn hd
  | own hg hm hd => exact L2.pe_glob hg hm rfl hd
theorem cr_star {e : Expr} {cr : CR} (h : CrE X NM e cr) : isStar e = false := by cases h <;> rfl
inductive CrEs (X : Cx) (NM : Nm) : List Expr → List CR → Prop
  | nil : CrEs X NM [] []
  | cons {e : Expr} {cr : CR} {es : List Expr} {cs : List CR} (h : CrE X NM e cr) (r : CrEs X NM es cs) : CrEs X NM (e :: es) (cr :: cs)
theorem crs_pa {es : List Expr} {cs : List CR} (h : CrEs X NM es cs) : PA X es (fun σ H Q => Q (cs.map (crW NM)) H) := by
  induction h with
  | nil => exact PA.imp L2.pa_nil fun σ H Q h => h
  | cons h _ ih => exact PA.imp (L2.pa_cons (cr_pe h) ih (star_cons (cr_star h))) fun σ H Q q => q
theorem crs_clsV (NM : Nm) : ∀ cs : List CR, Paired L2.ClsV (cs.map (crW NM)) (cs.map (crV NM))
  | [] => .nil
  | c :: cs => .cons (cr_clsV NM c) (crs_clsV NM cs)
theorem de_isi1 {cr : CR} (hg : L2.Gl X "isinstance") (hm : X.mg "isinstance" = none) (io : ∀ c, plainC P c = true → InsOk X.K (NM.cls c)) (ok : IsOk X.K NM P cr) (ha : DE X NM TB W P Φ Ψ a ia) (ns : isStar a = false) (hb : CrE X NM b cr) :
    DE X NM TB W P Φ Ψ (.Call (.Name "isinstance" p) [a, b] [] pos) (.isi ia [cr]) := by
  refine PE.imp (L2.pe_callB L2.call_isi hg hm (by first | exact PyProof.Rows.boot_isinstance | rfl) (L2.pa_cons ha (L2.pa_cons (cr_pe hb) L2.pa_nil (star_cons (cr_star hb))) (star_cons ns)) (by decide) (by decide) (star_cons ns) (star_any (es := [b]) (by simp [noStars, cr_star hb]))) fun σ H Q ⟨δ, st, G, hE, hR, hw⟩ => ?_
  refine seqR .refl hE hR hw fun x st1 v H1 G1 e1 _ hE1 r1 x1 hw1 => ?_
  by_cases hi : isiOk P (view st1 (raw x)) = true
  · rw [if_pos hi] at hw1
    obtain ⟨t, h1, h2⟩ := ans_ty io r1 (r1.viewR x1) hi
    refine ⟨v, crW NM cr, t, crV NM cr, _, rfl, cr_clsV NM cr, h1, h2 cr ok, ?_⟩
    have := hw1 _ H1 G1 e1 r1 (RepV.toX (.bl _))
    simpa using this
  · rw [if_neg hi] at hw1; exact hw1.elim
theorem de_isiT {es : List Expr} {cs : List CR} {k : Nat} {p2 : Pos} (tp : TbP TB) (hg : L2.Gl X "isinstance") (hm : X.mg "isinstance" = none) (io : ∀ c, plainC P c = true → InsOk X.K (NM.cls c)) (ok : ∀ cr ∈ cs, IsOk X.K NM P cr) (hz : big cs.length = true) (ha : DE X NM TB W P Φ Ψ a ia) (ns : isStar a = false) (hb : CrEs X NM es cs) :
    DE X NM TB W P Φ Ψ (.Call (.Name "isinstance" p) [a, .Tuple es k p2] [] pos) (.isi ia cs) := by
  refine PE.imp (L2.pe_callB L2.call_isiT hg hm (by first | exact PyProof.Rows.boot_isinstance | rfl) (L2.pa_cons ha (L2.pa_cons (L2.pe_tup (crs_pa hb)) L2.pa_nil rfl) (star_cons ns)) (by decide) (by decide) (star_cons ns) rfl) fun σ H Q ⟨δ, st, G, hE, hR, hw⟩ => ?_
  refine seqR .refl hE hR hw fun x st1 v H1 G1 e1 _ hE1 r1 x1 hw1 => ?_
  by_cases hi : isiOk P (view st1 (raw x)) = true
  · rw [if_pos hi] at hw1
    refine ⟨by rw [List.length_map]; exact le_line hz, fun q hq => ?_⟩
    have r2 := r1.grow tp (same_upd (o := .tup (cs.map (crW NM))) hq)
    obtain ⟨t, h1, h2⟩ := ans_ty io r2 (r2.viewR x1) hi
    exact ⟨v, q, _, t, _, _, rfl, upd_same, crs_clsV NM cs, h1, kit_any fun cr m => h2 cr (ok cr m), hw1 _ _ G1 e1 r2 (RepV.toX (.bl _))⟩
  · rw [if_neg hi] at hw1; exact hw1.elim
end
end Z

set_option linter.all false
set_option maxRecDepth 100000
set_option maxHeartbeats 2000000
namespace Z
open PySem PySem.Spec PyProof.Rows
open L2 (V Hp HO Key VK XK TE TT TA TS TG TGs TO TI WX Cx Inv Ends SqL SqT Same upd upd_same upd_ne ne_of ne_of_none OpR UnR CallR R2 Dp DpAll IxR SlR PE PT PW PA PS PSs PG PGs PI PO PTs PK FnOk Room Vals RelV Sp EP thn MtR)
open L2 (Takes XE BlkOk)
section
variable {X : Cx} {NM : Nm} {TB : Hp → Prop} {W : WX} {P : Prog} {Φ Ψ : Fun} {a b c e : Expr} {ia ib ic : IE} {p pos p' apos : Pos} {es : List Expr} {is : List IE}
/-- a list's method that changes it -/
def rLm (K : PySem.W.Frag) (NM : Nm) (TB : Hp → Prop) (m : LM) : V → List V → Hp → VK → Prop := fun v vs H Q => ∃ i xs ds ys z G st, v = .ref (G.ι i) ∧ st[i]? = some (.lst xs) ∧ Rp K NM TB G H st ∧ RepVs K NM G.F vs ds ∧ lmD m xs ds = some (ys, z) ∧
  ∀ w H' G', Ext G st G' (st.set i (.lst ys)) → Rp K NM TB G' H' (st.set i (.lst ys)) → RepX K NM G' H' (st.set i (.lst ys)) w z → Q w H'
theorem lm_write {K : PySem.W.Frag} {NM : Nm} {TB : Hp → Prop} (tp : TbP TB) {G : Gw} {H : Hp} {st : St} {i : Nat} {xs ys : List Dat} (r : Rp K NM TB G H st) (e : st[i]? = some (.lst xs)) {ws : List V} (rw : RepVs K NM G.F ws ys) :
    Ext G st G (st.set i (.lst ys)) ∧ Rp K NM TB G (upd H (G.ι i) (.lst ws)) (st.set i (.lst ys)) := by
  obtain ⟨vs, h1, h2, h3⟩ := r.cells i _ e
  exact r.write tp (c' := .lst ys) (o := .lst ws) e rfl ⟨_, upd_same, h2, rw⟩ rfl
theorem lm_append (tp : TbP TB) : MtR X "list.append" (rLm X.K NM TB .append) := by
  intro pins s σ H x vs v us Q I rx rv h
  obtain ⟨i, xs, ds, ys, z, G, st, rfl, es, r, rd, hl, q⟩ := h
  cases rd with
  | nil => cases hl
  | cons a t =>
    cases t with
    | cons _ _ => cases hl
    | nil =>
      rename_i y d
      have hl : (if Nat.blt xs.length BIG then some (xs ++ [d], Dat.non) else none) = some (ys, z) := hl
      by_cases hz : Nat.blt xs.length BIG = true
      · rw [if_pos hz] at hl
        cases hl
        obtain ⟨ws, h1, h2, h3⟩ := r.cells i _ es
        obtain ⟨e2, r2⟩ := lm_write tp r es (h3.append (.cons a .nil))
        exact L2.mt_append pins s σ H _ _ v us Q I rx rv ⟨_, ws, y, rfl, rfl, h1, by rw [h3.length]; exact bnl hz, q _ _ _ e2 r2 .non⟩
      · rw [if_neg hz] at hl; cases hl
theorem lm_insert (tp : TbP TB) : MtR X "list.insert" (rLm X.K NM TB .insert) := by
  intro pins s σ H x vs v us Q I rx rv h
  obtain ⟨i, xs, ds, ys, z, G, st, rfl, es, r, rd, hl, q⟩ := h
  cases rd with
  | nil => cases hl
  | cons a t =>
    cases t with
    | nil => cases a <;> cases hl
    | cons b t =>
      cases t with
      | cons _ _ => cases a <;> cases hl
      | nil =>
        cases a with
        | int k =>
          rename_i y d
          have hl : (if (Nat.blt xs.length BIG && decide (0 ≤ k ∧ k ≤ xs.length)) = true then some (xs.take k.toNat ++ d :: xs.drop k.toNat, Dat.non) else none) = some (ys, z) := hl
          by_cases hz : (Nat.blt xs.length BIG && decide (0 ≤ k ∧ k ≤ xs.length)) = true
          · rw [if_pos hz] at hl
            cases hl
            rw [Bool.and_eq_true] at hz
            have hk := of_decide_eq_true hz.2
            obtain ⟨ws, h1, h2, h3⟩ := r.cells i _ es
            have hr := ((h3.take k.toNat).append (.cons b .nil)).append (h3.drop k.toNat)
            have e0 : xs.take k.toNat ++ d :: xs.drop k.toNat = xs.take k.toNat ++ [d] ++ xs.drop k.toNat := by simp
            obtain ⟨e2, r2⟩ := lm_write tp r es hr
            have hlt := bnl hz.1
            have h63 := L2.line63
            refine L2.mt_insert pins s σ H _ _ v us Q I rx rv ⟨_, ws, k, y, rfl, rfl, h1, by rw [h3.length]; exact hlt, hk.1, by omega, ?_⟩
            rw [e0] at q
            exact q _ _ _ e2 r2 .non
          · rw [if_neg hz] at hl; cases hl
        | _ => cases hl
theorem lm_extend (tp : TbP TB) : MtR X "list.extend" (rLm X.K NM TB .extend) := by
  intro pins s σ H x vs v us Q I rx rv h
  obtain ⟨i, xs, ds, ys, z, G, st, rfl, es, r, rd, hl, q⟩ := h
  cases rd with
  | nil => cases hl
  | cons a t =>
    cases t with
    | cons _ _ => cases a <;> cases hl
    | nil =>
      cases a with
      | lst ha hb =>
        rename_i b zs ds
        have hl : (if big (xs.length + ds.length) then some (xs ++ ds, Dat.non) else none) = some (ys, z) := hl
        by_cases hz : big (xs.length + ds.length) = true
        · rw [if_pos hz] at hl
          cases hl
          obtain ⟨ws, h1, h2, h3⟩ := r.cells i _ es
          obtain ⟨e2, r2⟩ := lm_write tp r es (h3.append hb)
          exact L2.mt_extend pins s σ H _ _ v us Q I rx rv ⟨_, b, ws, zs, rfl, rfl, h1, r.sub _ _ ha, by rw [h3.length, hb.length]; exact le_line hz, q _ _ _ e2 r2 .non⟩
        · rw [if_neg hz] at hl; cases hl
      | _ => cases hl
theorem isLst_some {s : St} {d : Dat} (h : isLst s d = true) : ∃ i xs, d = .obj i ∧ s[i]? = some (.lst xs) := by
  cases d with
  | obj i =>
    cases e : s[i]? with
    | none => simp only [isLst, e] at h; cases h
    | some c =>
      cases c with
      | lst xs => exact ⟨i, xs, rfl, e⟩
      | _ => simp only [isLst, e] at h; cases h
  | _ => cases h
theorem de_lm {id : String} {nm : Str} {m : LM} (hm : MtR X id (rLm X.K NM TB m)) (slot : Slot "list" nm id) (hty : typeOf (.builtin id) = pure (.type "method_descriptor")) (ho : DE X NM TB W P Φ Ψ a ia) (ha : DL X NM TB W P Φ Ψ (e :: es) is) (hbase : attributeBase a nm X.env (eval a X.env) = eval a X.env)
    (ns : noStars (e :: es) = true) (hn : (e :: es).length < 29) (hl : (apos.endLine == pos.line) = true) : DE X NM TB W P Φ Ψ (.Call (.Attribute a nm apos) (e :: es) [] pos) (.lm m ia is) := by
  obtain ⟨n1, n2⟩ := noStars_cons ns
  refine PE.imp (L2.pe_bm PySem.F.plainAttrs_list slot hty hm ho ha hbase (by have := form_ok (pos := pos) (env := X.env) (kws := []) (n := (e :: es).length) ns rfl hn; exact this) hl (star_cons n1) (star_any n2)) fun σ H Q ⟨δ, st, G, hE, hR, hw⟩ => ?_
  refine seqD .refl hE hR hw fun x st1 v H1 G1 e1 _ hE1 r1 x1 hw1 => ?_
  have hw1 : (if isLst st1 x = true then (evD P Φ Ψ is δ st1).bnd fun ds s => match x with
    | .obj i => (match s[i]? with
      | some (.lst xs) => (match lmD m xs ds with
        | some (ys, r) => Res.ok r (s.set i (.lst ys))
        | none => Res.stuck)
      | _ => Res.stuck)
    | _ => Res.stuck else Res.stuck).wp (KX X.K NM TB G st Q) (EX X.K NM TB G st σ W) := hw1
  by_cases hi : isLst st1 x = true
  · rw [if_pos hi] at hw1
    obtain ⟨i, xs, rfl, ex⟩ := isLst_some hi
    obtain ⟨hlt, rfl⟩ := x1
    obtain ⟨ws, g1, g2, g3⟩ := r1.cells i _ ex
    refine ⟨.inl ⟨rfl, ws, SqL.of g1⟩, ?_⟩
    refine seqL e1 hE1 r1 hw1 fun ds st2 vs H2 G2 e2 l2 hE2 r2 x2 hw2 => ?_
    have hw2 : (match st2[i]? with
      | some (.lst xs) => (match lmD m xs ds with
        | some (ys, r) => Res.ok r (st2.set i (.lst ys))
        | none => Res.stuck)
      | _ => Res.stuck).wp (KX X.K NM TB G st Q) (EX X.K NM TB G st σ W) := hw2
    cases hc : st2[i]? with
    | none => rw [hc] at hw2; exact hw2.elim
    | some cc =>
      rw [hc] at hw2
      cases cc with
      | lst xs2 =>
        have hw2 : (match lmD m xs2 ds with
          | some (ys, r) => Res.ok r (st2.set i (.lst ys))
          | none => Res.stuck).wp (KX X.K NM TB G st Q) (EX X.K NM TB G st σ W) := hw2
        cases hd : lmD m xs2 ds with
        | none => rw [hd] at hw2; exact hw2.elim
        | some yz =>
          obtain ⟨ys, z⟩ := yz
          rw [hd] at hw2
          exact ⟨i, xs2, ds, ys, z, G2, st2, by rw [l2.ι _ hlt], hc, r2, x2, hd, fun w H' G' e3 r3 x3 => hw2 w H' G' (e2.trans e3) r3 x3⟩
      | _ => exact hw2.elim
  · rw [if_neg hi] at hw1; exact hw1.elim
/-- a method that changes nothing -/
def rPm (K : PySem.W.Frag) (NM : Nm) (TB : Hp → Prop) (m : PM) : V → List V → Hp → VK → Prop := fun v vs H Q => ∃ x ds z G st, RW K NM G H v x ∧ Rp K NM TB G H st ∧ RepRs K NM G st.length vs ds ∧ pmD m x (ds.map (view st)) = some z ∧ Give K NM TB G st z Q
theorem RepRs.one {K : PySem.W.Frag} {NM : Nm} {G : Gw} {n : Nat} {vs : List V} {ds : List Dat} (r : RepRs K NM G n vs ds) (h : ds.length = 1) : ∃ v d, vs = [v] ∧ ds = [d] ∧ RepR K NM G n v d := by
  cases r with
  | nil => cases h
  | cons a t =>
    cases t with
    | nil => exact ⟨_, _, rfl, rfl, a⟩
    | cons _ _ => simp at h
theorem joinD_some {sep : Str} {ys : List Str} {z : Dat} (h : joinD sep ys = some z) : (ys.map (·.length)).sum + ys.length * sep.length ≤ 16777216 ∧ z = .str (Txt.join sep ys) := by
  have h : (if big ((ys.map Str.length).sum + sep.length * ys.length) then some (Dat.str (PySem.Txt.join sep ys)) else none) = some z := h
  by_cases q : big ((ys.map Str.length).sum + sep.length * ys.length) = true
  · rw [if_pos q] at h
    cases h
    have := Nat.le_of_ble_eq_true q
    rw [Nat.mul_comm] at this
    exact ⟨this, rfl⟩
  · rw [if_neg q] at h; cases h
theorem pm_join : MtR X "str.join" (rPm X.K NM TB .join) := by
  intro pins s σ H x vs v us Q I rx rv h
  obtain ⟨d, ds, z, G, st, hx, r, rd, hg, g⟩ := h
  cases d with
  | str sep =>
    rw [rw_str hx] at rx
    cases hds : ds with
    | nil => rw [hds] at hg; cases hg
    | cons d1 r1 =>
      cases r1 with
      | cons _ _ => rw [hds] at hg; cases hv : view st d1 <;> simp only [List.map_cons, hv, pmD] at hg <;> cases hg
      | nil =>
        obtain ⟨w, d2, e1, e2, rr⟩ := rd.one (by rw [hds]; rfl)
        subst e1
        rw [hds] at e2
        cases e2
        rw [hds] at hg
        have wv := r.viewR rr
        cases hv : view st d1 with
        | lst xs =>
          rw [hv] at wv
          simp only [List.map_cons, List.map_nil, hv, pmD] at hg
          obtain ⟨a1, ws, rfl, h1, h2⟩ := wv
          cases hs : isStrs xs with
          | none => rw [hs] at hg; cases hg
          | some ys =>
            rw [hs] at hg
            obtain ⟨e3, e4⟩ := h2.of_strs hs
            obtain ⟨j1, rfl⟩ := joinD_some (show joinD sep ys = some z from hg)
            exact L2.mt_join pins s σ H _ _ v us Q I rx rv ⟨sep, a1, ys, rfl, rfl, .inl (SqL.of (by rw [← e3]; exact h1)), j1, g.data r (.str _)⟩
        | tup xs =>
          rw [hv] at wv
          simp only [List.map_cons, List.map_nil, hv, pmD] at hg
          obtain ⟨a1, ws, rfl, h1, h2⟩ := rw_tup wv
          cases hs : isStrs xs with
          | none => rw [hs] at hg; cases hg
          | some ys =>
            rw [hs] at hg
            obtain ⟨e3, e4⟩ := h2.of_strs hs
            obtain ⟨j1, rfl⟩ := joinD_some (show joinD sep ys = some z from hg)
            exact L2.mt_join pins s σ H _ _ v us Q I rx rv ⟨sep, a1, ys, rfl, rfl, .inr (by rw [← e3]; exact SqT_mono r.sub h1), j1, g.data r (.str _)⟩
        | _ => simp only [List.map_cons, List.map_nil, hv, pmD] at hg; cases hg
  | _ => cases hds : ds.map (view st) with
    | nil => rw [hds] at hg; cases hg
    | cons d1 r1 => rw [hds] at hg; cases r1 <;> cases d1 <;> cases hg
end
end Z

set_option linter.all false
set_option maxRecDepth 100000
set_option maxHeartbeats 2000000
namespace Z
open PySem PySem.Spec PyProof.Rows
open L2 (V Hp HO Key VK XK TE TT TA TS TG TGs TO TI WX Cx Inv Ends SqL SqT Same upd upd_same upd_ne ne_of ne_of_none OpR UnR CallR R2 Dp DpAll IxR SlR PE PT PW PA PS PSs PG PGs PI PO PTs PK FnOk Room Vals RelV Sp EP thn MtR)
open L2 (Takes XE BlkOk)
section
variable {X : Cx} {NM : Nm} {TB : Hp → Prop} {W : WX} {P : Prog} {Φ Ψ : Fun} {a b c e : Expr} {ia ib ic : IE} {p pos p' apos : Pos} {es : List Expr} {is : List IE}
theorem pm_index (hu : X.A.units + 65 < cLine) : MtR X "list.index" (rPm X.K NM TB .index) := by
  intro pins s σ H x vs v us Q I rx rv h
  obtain ⟨d, ds, z, G, st, hx, r, rd, hg, g⟩ := h
  cases d with
  | lst xs =>
    cases hds : ds with
    | nil => rw [hds] at hg; cases hg
    | cons d1 r1 =>
      cases r1 with
      | cons _ _ => rw [hds] at hg; cases hv : view st d1 <;> simp only [List.map_cons, hv, pmD] at hg <;> cases hg
      | nil =>
        obtain ⟨w, d2, e1, e2, rr⟩ := rd.one (by rw [hds]; rfl)
        subst e1
        rw [hds] at e2
        cases e2
        rw [hds] at hg
        have wv := r.viewR rr
        have hg : (match toPys xs, shapedO (toPy (view st d1)) with
          | some ps, some p => if SeqAt.shaped (.list ps) then (ps.findIdx? fun z => PyData.eqv z p).map fun k => Dat.int k else none
          | _, _ => none) = some z := hg
        cases hp : toPys xs with
        | none => rw [hp] at hg; cases hg
        | some ps =>
          cases hq : shapedO (toPy (view st d1)) with
          | none => rw [hp, hq] at hg; cases hg
          | some q =>
            rw [hp, hq] at hg
            have hg : (if SeqAt.shaped (.list ps) = true then (ps.findIdx? fun z => PyData.eqv z q).map fun k => Dat.int k else none) = some z := hg
            by_cases hs : SeqAt.shaped (.list ps) = true
            · rw [if_pos hs] at hg
              cases hf : ps.findIdx? fun z => PyData.eqv z q with
              | none => rw [hf] at hg; cases hg
              | some k =>
                rw [hf] at hg
                cases hg
                obtain ⟨h1, h2, h3⟩ := List.findIdx?_eq_some_iff_getElem.mp hf
                obtain ⟨q1, q2⟩ := shapedO_some hq
                have hx0 := hx
                obtain ⟨a1, ws, rfl, h4, h5⟩ := hx0
                have hpy : toPy (.lst xs) = some (.list ps) := by
                  show (toPys xs).map PyData.list = _
                  rw [hp]
                  rfl
                exact L2.mt_indexD hu pins s σ H _ _ v us Q I rx rv ⟨a1, w, q, ps, k, ps[k], rfl, rfl, rw_dp r.sub hx hpy, rw_dp r.sub wv q1, hs, q2, List.getElem?_eq_getElem h1, h2, fun m z' hm hz' => by
                  obtain ⟨hm1, hm2⟩ := List.getElem?_eq_some_iff.mp hz'
                  have := h3 m hm
                  rw [hm2] at this
                  simpa using this, g.data r (.int _)⟩
            · rw [if_neg hs] at hg; cases hg
  | _ => cases hds : ds.map (view st) with
    | nil => rw [hds] at hg; cases hg
    | cons d1 r1 => rw [hds] at hg; cases r1 <;> cases d1 <;> cases hg
def pmTy : PM → String
  | .join => "str"
  | .index => "list"
  | _ => ""
theorem de_pm {id : String} {nm : Str} {m : PM} (hm : MtR X id (rPm X.K NM TB m)) (pa : PlainAttrs (pmTy m)) (slot : Slot (pmTy m) nm id) (hty : typeOf (.builtin id) = pure (.type "method_descriptor")) (ho : DE X NM TB W P Φ Ψ a ia) (ha : DA X NM TB W P Φ Ψ (e :: es) is) (hbase : attributeBase a nm X.env (eval a X.env) = eval a X.env)
    (ns : noStars (e :: es) = true) (hn : (e :: es).length < 29) (hl : (apos.endLine == pos.line) = true) : DE X NM TB W P Φ Ψ (.Call (.Attribute a nm apos) (e :: es) [] pos) (.pm m ia is) := by
  obtain ⟨n1, n2⟩ := noStars_cons ns
  refine PE.imp (L2.pe_bm pa slot hty hm ho ha hbase (by have := form_ok (pos := pos) (env := X.env) (kws := []) (n := (e :: es).length) ns rfl hn; exact this) hl (star_cons n1) (star_any n2)) fun σ H Q ⟨δ, st, G, hE, hR, hw⟩ => ?_
  refine seqR .refl hE hR hw fun x st1 v H1 G1 e1 _ hE1 r1 x1 hw1 => ?_
  have hw1 : (if pmT m (view st1 (raw x)) = true then (evs P Φ Ψ is δ st1).bnd fun ds s => opt (pmD m (view s (raw x)) (ds.map (view s))) s else .stuck).wp (KX X.K NM TB G st Q) (EX X.K NM TB G st σ W) := hw1
  by_cases hi : pmT m (view st1 (raw x)) = true
  · rw [if_pos hi] at hw1
    have w1 := r1.viewR x1
    refine ⟨?_, ?_⟩
    · cases hv : view st1 (raw x) with
      | str t =>
        rw [hv] at hi w1
        rw [rw_str w1]
        cases m <;> first | rfl | cases hi
      | lst xs =>
        rw [hv] at hi w1
        obtain ⟨a1, ws, rfl, h1, h2⟩ := w1
        cases m <;> first | exact .inl ⟨rfl, ws, SqL.of h1⟩ | cases hi
      | _ => rw [hv] at hi; cases m <;> cases hi
    · refine seqA e1 hE1 r1 hw1 fun ds st2 vs H2 G2 e2 l2 hE2 r2 x2 hw2 => ?_
      obtain ⟨z, hz, q⟩ := wp_opt hw2
      exact ⟨_, ds, z, G2, st2, r2.viewR (x1.ext l2), r2, x2, hz, q.give e2⟩
  · rw [if_neg hi] at hw1; exact hw1.elim
/-- {} -/
theorem de_newd (tp : TbP TB) : DE X NM TB W P Φ Ψ (.Dict [] [] pos) .newd := by
  refine PE.imp L2.pe_dnewK fun σ H Q ⟨δ, st, G, hE, hR, hw⟩ => fun q hq => ?_
  exact hw (.ref q) _ G .refl (hR.grow tp (same_upd hq)) ⟨q, [], rfl, upd_same, ⟨hR.fresh hq, hR.freshB hq⟩, hR.apart hq, .nil⟩
/-- the parts of an f-string -/
inductive PartE (X : Cx) (NM : Nm) (TB : Hp → Prop) (W : WX) (P : Prog) (Φ Ψ : Fun) : Expr → IE → TE → Prop
  | con {y : Str} {j : Nat} {pos : Pos} : PartE X NM TB W P Φ Ψ (.Constant (.str y) j pos) (.const (.str y)) (L2.tC (.str y))
  | fmt {e : Expr} {i : IE} {pos : Pos} (h : DE X NM TB W P Φ Ψ e i) : PartE X NM TB W P Φ Ψ (.FormattedValue e (-1) none pos) i (L2.tFmt (tD X.K NM TB (ev P Φ Ψ i) W))
inductive PartsE (X : Cx) (NM : Nm) (TB : Hp → Prop) (W : WX) (P : Prog) (Φ Ψ : Fun) : List Expr → List IE → List TE → Prop
  | nil : PartsE X NM TB W P Φ Ψ [] [] []
  | cons {e : Expr} {i : IE} {t : TE} {es : List Expr} {is : List IE} {ts : List TE} (h : PartE X NM TB W P Φ Ψ e i t) (r : PartsE X NM TB W P Φ Ψ es is ts) : PartsE X NM TB W P Φ Ψ (e :: es) (i :: is) (t :: ts)
theorem parts_pj {es : List Expr} {is : List IE} {ts : List TE} (h : PartsE X NM TB W P Φ Ψ es is ts) : L2.PJ X es ts := by
  induction h with
  | nil => exact .nil
  | cons h _ ih =>
    refine .cons ?_ ih
    cases h with
    | con => exact L2.pe_str
    | fmt h => exact L2.pe_fmt h
theorem fmt_some {d : Dat} {y : Str} (h : fmtD d = some y) : (d = .str y ∧ y.length ≤ sizeLine) ∨ ∃ i, d = .int i ∧ i.natAbs.log2 < 1920 ∧ y = toString i := by
  cases d with
  | str z =>
    have h : (if big z.length then some z else none) = some y := h
    by_cases q : big z.length = true
    · rw [if_pos q] at h; cases h; exact .inl ⟨rfl, le_line q⟩
    · rw [if_neg q] at h; cases h
  | int i =>
    have h : (if decide (i.natAbs.log2 < 1920) then some (toString i : Str) else none) = some y := h
    by_cases q : decide (i.natAbs.log2 < 1920) = true
    · rw [if_pos q] at h; cases h; exact .inr ⟨i, rfl, of_decide_eq_true q, rfl⟩
    · rw [if_neg q] at h; cases h
  | _ => cases h
theorem tJs_use {es : List Expr} {is : List IE} {ts : List TE} (h : PartsE X NM TB W P Φ Ψ es is ts) : ∀ {G0 G : Gw} {st0 st : St} {σ : L2.St} {H : Hp} {δ : Env} {Q : VK} {acc : Str}, Ext G0 st0 G st → RepE X.K NM G st.length σ δ → Rp X.K NM TB G H st →
    (evF P Φ Ψ is acc δ st).wp (KX X.K NM TB G0 st0 Q) (EX X.K NM TB G0 st0 σ W) → L2.tJs ts acc σ H fun out H1 => Q (.str out) H1 := by
  induction h with
  | nil => intro G0 G st0 st σ H δ Q acc x0 hE hR hw; exact hw _ _ _ x0 hR (RepV.toX (.str _))
  | @cons e i t es is ts h _ ih =>
    intro G0 G st0 st σ H δ Q acc x0 hE hR hw
    have hw : ((ev P Φ Ψ i δ st).bnd fun d s => (opt (fmtD d) s).bnd fun y s => if big (acc ++ y).length then evF P Φ Ψ is (acc ++ y) δ s else .stuck).wp (KX X.K NM TB G0 st0 Q) (EX X.K NM TB G0 st0 σ W) := hw
    have next : ∀ {y : Str} {st1 : St} {G1 : Gw} {H1 : Hp}, Ext G0 st0 G1 st1 → RepE X.K NM G1 st1.length σ δ → Rp X.K NM TB G1 H1 st1 → (if big (acc ++ y).length = true then evF P Φ Ψ is (acc ++ y) δ st1 else .stuck).wp (KX X.K NM TB G0 st0 Q) (EX X.K NM TB G0 st0 σ W) →
        (acc ++ y).length ≤ sizeLine ∧ L2.tJs ts (acc ++ y) σ H1 fun out H1 => Q (.str out) H1 := fun {y st1 G1 H1} e1 hE1 r1 hw1 => by
      by_cases q : big (acc ++ y).length = true
      · rw [if_pos q] at hw1
        exact ⟨le_line q, ih e1 hE1 r1 hw1⟩
      · rw [if_neg q] at hw1; exact hw1.elim
    cases h with
    | @con y j pos =>
      obtain ⟨y', hy, hw1⟩ := wp_optb (show ((opt (fmtD (.str y)) st).bnd fun y s => if big (acc ++ y).length then evF P Φ Ψ is (acc ++ y) δ s else .stuck).wp (KX X.K NM TB G0 st0 Q) (EX X.K NM TB G0 st0 σ W) from hw)
      have e : y' = y := by
        rcases fmt_some hy with ⟨h1, _⟩ | ⟨i, h1, _⟩
        · exact (Dat.str.inj h1).symm
        · cases h1
      subst e
      obtain ⟨a1, a2⟩ := next x0 hE hR hw1
      exact ⟨y', rfl, a1, a2⟩
    | fmt h =>
      refine seqD x0 hE hR hw fun d st1 v H1 G1 e1 _ hE1 r1 x1 hw1 => ?_
      obtain ⟨y, hy, hw2⟩ := wp_optb hw1
      obtain ⟨a1, a2⟩ := next e1 hE1 r1 hw2
      rcases fmt_some hy with ⟨rfl, h2⟩ | ⟨k, rfl, h2, rfl⟩
      · have x1 : RepV X.K NM G1.F v (.str y) := x1
        cases x1
        exact .inl ⟨y, rfl, h2, y, rfl, a1, a2⟩
      · exact .inr ⟨k, rx_int x1, h2, _, rfl, a1, a2⟩
theorem de_fstr {v1 v2 : Expr} {rest : List Expr} {ts : List TE} (h : PartsE X NM TB W P Φ Ψ (v1 :: v2 :: rest) is ts) : DE X NM TB W P Φ Ψ (.JoinedStr (v1 :: v2 :: rest) pos) (.fstr is) :=
  PE.imp (L2.pe_joined (parts_pj h)) fun σ H Q ⟨δ, st, G, hE, hR, hw⟩ => tJs_use h .refl hE hR hw
end
section
variable {X : Cx} {NM : Nm} {TB : Hp → Prop} {W : WX} {P : Prog} {Φ Ψ : Fun} {a b c e : Expr} {ia ib ic : IE} {p pos p' apos : Pos}
theorem run_fnA2 {k : Nat} {f : Addr} {fd : FuncData} {ps : List Str} {sp : Sp} {args : Args} {pins : List (Addr × Obj)} {σ : L2.St} {H : Hp} {s : Shared} {Q : VK} {xs : List V} {us : List Value} (F : FnOk X.prog X.w X.K X.mg X.base (L2.CX X.prog X.w) k f fd ps sp)
    (hr : Room (k + 2) X.A) (tk : Takes X W) (I : Inv X pins σ H s) (r : Vals xs us) (hb : BindsTo s fd args (ps.zip us)) (h : sp xs H Q fun c d H' => W c d σ H') : wpAny (model X.prog X.w) X.A.in1.in1 (call (.ref f) args.pos args.kw) (EP X pins σ Q) X.xe s := by
  refine wpAny_call (codeAny_mono (F.run X.A.in1.in1 X.stack s H args us xs Q _ hr.in1.in1 I.env0.in1.in1 hb r h) fun r s' hq => ?_)
  cases r with
  | error e => exact tk e s' (XE.of_call I (fun cls d H' h => h) hq)
  | ok fl =>
    cases fl with
    | ret u => exact I.after hq
    | next => exact False.elim hq
    | brk => exact False.elim hq
    | cont => exact False.elim hq
structure StrAt (X : Cx) (k : Nat) (C f : Addr) (fd : FuncData) (ps : List Str) (sp : Sp) : Prop where
  fn : FnAt X k f fd ps sp
  one : ps.length = 1
  st : PySem.W.findIn X.K (.ref C) "__str__" = some (some (.ref f))
  isf : PySem.W.isFn X.K (.ref f) = true
def rStr (X : Cx) (W : WX) (k : Nat) : List V → Hp → VK → Prop := fun xs H Q => (∃ i, xs = [.int i] ∧ i.natAbs.log2 < 1920 ∧ Q (.str (toString i)) H) ∨
  ∃ a C dx gs f fd ps sp, xs = [.ref a] ∧ H a = some (.ins C dx gs) ∧ StrAt X k C f fd ps sp ∧ ∀ σ, sp [.ref a] H (fun r H' => ∃ y, r = .str y ∧ Q (.str y) H') fun c d H' => W c d σ H'
theorem call_str {k : Nat} (hr : Room (k + 2) X.A) (tk : Takes X W) : CallR X (.type "str") (rStr X W k) := by
  intro pins s σ H xs us Q I r h
  rcases h with ⟨i, rfl, h1, q⟩ | ⟨a, C, dx, gs, f, fd, ps, sp, rfl, ha, F, q⟩
  · exact L2.call_str_int pins s σ H _ us Q I r ⟨i, rfl, h1, q⟩
  · obtain rfl := L2.Vals.ref1 r
    obtain ⟨mA, J, _⟩ := L2.ins_get I.hok ha
    obtain ⟨od, J, _⟩ := J.look
    refine PySem.W.kso_call hr.in1.in1.units0 I.kIn J F.st F.isf ?_
    have b0 := bind_plain (us := [.ref a]) (ws := []) (ks := []) F.fn.plain F.fn.nd F.fn.dv (by rw [List.drop_of_length_le]; rw [F.one]; exact Nat.le_refl _) rfl (by rw [F.one]; exact Nat.le_refl _)
    rw [List.append_nil] at b0
    refine wpAny_mono (run_fnA2 (W := W) (σ := σ) (args := ⟨[.ref a], []⟩) (xs := [.ref a]) F.fn.ok hr tk I (.cons rfl .nil) (.of_eq b0) (q σ)) (fun r s' hq => ?_) fun _ _ e => e
    obtain ⟨w, H', I', rw', y, e, q'⟩ := hq
    subst e
    obtain ⟨t, rfl⟩ := rw'
    exact ⟨.str y, H', I', ⟨t, rfl⟩, q'⟩
theorem de_str {k m : Nat} (wk : WK W) (hr : Room (k + 2) X.A) (tk : Takes X W) (hg : L2.Gl X "str") (hm : X.mg "str" = none) (F : ∀ c q f, P.clss[c]? = some q → q.meths.lookup m = some f → ∃ fa fd ps, StrAt X k (NM.cls c) fa fd ps (spD X.K NM TB ps.length (Φ f)))
    (ha : DE X NM TB W P Φ Ψ a ia) (ns : isStar a = false) : DE X NM TB W P Φ Ψ (.Call (.Name "str" p) [a] [] pos) (.str_ m ia) := by
  refine PE.imp (L2.pe_callTy (call_str hr tk) hg hm (by first | exact PyProof.Rows.boot_str | rfl) (L2.pa_cons ha L2.pa_nil (star_cons ns)) (by decide) (by decide) (star_cons ns) rfl) fun σ H Q ⟨δ, st, G, hE, hR, hw⟩ => ?_
  refine seqR .refl hE hR hw fun x st1 v H1 G1 e1 _ hE1 r1 x1 hw1 => ?_
  have w1 := r1.viewR x1
  cases hv : view st1 (raw x) with
  | ins cl fs =>
    rw [hv] at w1
    simp only [hv] at hw1
    obtain ⟨ad, dx, gs, rfl, h1, h2⟩ := w1
    cases hq : P.clss[cl]? with
    | none => simp only [hq] at hw1; exact hw1.elim
    | some q =>
      simp only [hq] at hw1
      cases hf : q.meths.lookup m with
      | none => simp only [hf] at hw1; exact hw1.elim
      | some f =>
        simp only [hf] at hw1
        obtain ⟨fa, fd, ps, FS⟩ := F cl q f hq hf
        refine .inr ⟨ad, _, dx, gs, fa, fd, ps, _, rfl, h1, FS, fun σ' => ⟨[raw x], st1, G1, by rw [FS.one]; rfl, .cons x1 .nil, r1, ?_⟩⟩
        cases eo : Φ f [raw x] st1 with
        | stuck => rw [eo] at hw1; exact hw1
        | err cc gs s5 => rw [eo] at hw1; exact (EX.wk wk (EX.from e1 hw1)).sig
        | ok d s5 =>
          rw [eo] at hw1
          intro v5 H5 G5 e5 r5 x5
          have hw1 : (if isStr d = true then Res.ok d s5 else .stuck).wp (KX X.K NM TB G st Q) (EX X.K NM TB G st σ W) := hw1
          cases d with
          | str y =>
            have x5 : RepV X.K NM G5.F v5 (.str y) := x5
            cases x5
            exact ⟨y, rfl, hw1 _ _ _ (e1.trans e5) r5 (RepV.toX (.str _))⟩
          | _ => exact hw1.elim
  | int i =>
    rw [hv] at w1
    simp only [hv] at hw1
    obtain ⟨z, hz, q⟩ := wp_opt hw1
    have hz : (if decide (i.natAbs.log2 < 1920) then some (Dat.str (toString i)) else none) = some z := hz
    by_cases qq : decide (i.natAbs.log2 < 1920) = true
    · rw [if_pos qq] at hz
      cases hz
      exact .inl ⟨i, by rw [rw_int w1], of_decide_eq_true qq, q _ _ _ e1 r1 (RepV.toX (.str _))⟩
    · rw [if_neg qq] at hz; cases hz
  | _ =>
    simp only [hv] at hw1
    obtain ⟨z, hz, q⟩ := wp_opt hw1
    cases hz
end
end Z

set_option linter.all false
set_option maxRecDepth 100000
set_option maxHeartbeats 2000000
namespace Z
open PySem PySem.Spec PyProof.Rows
open L2 (V Hp HO Key VK XK TE TT TA TS TG TGs TO TI WX Cx Inv Ends SqL SqT Same upd upd_same upd_ne ne_of ne_of_none OpR UnR CallR R2 Dp DpAll IxR SlR PE PT PW PA PS PSs PG PGs PI PO PTs PK FnOk Room Vals RelV Sp EP thn MtR)
open L2 (Takes XE BlkOk)
section
variable {X : Cx} {NM : Nm} {TB : Hp → Prop} {E : XK} {P : Prog} {Φ Ψ : Fun} {a b c d e : Expr} {ia ib ic id : IE} {p pos p' apos : Pos} {es : List Expr}
/-- the right side of a, b = x, y -/
def tPr (K : PySem.W.Frag) (NM : Nm) (TB : Hp → Prop) (m : Env → St → Res (List (Nat × Dat))) (W : WX) : TA := fun σ H Q => ∃ δ st G, RepE K NM G st.length σ δ ∧ Rp K NM TB G H st ∧
  (m δ st).wp (fun ps st' => ∀ vs H' G', Ext G st G' st' → Rp K NM TB G' H' st' → RepRs K NM G' st'.length vs (ps.map (·.2)) → Q vs H') (EX K NM TB G st σ W)
theorem dp_nil {W : WX} : PA X [] (tPr X.K NM TB (parG P Φ Ψ [] []) W) := PA.imp L2.pa_nil fun σ H Q ⟨δ, st, G, hE, hR, hw⟩ => hw _ _ _ .refl hR .nil
theorem dp_cons {W : WX} {i : Nat} {lv : Bool} {ls : List (Nat × Bool)} {is : List IE} (ha : DE X NM TB W P Φ Ψ a ia) (hr : PA X es (tPr X.K NM TB (parG P Φ Ψ ls is) W)) (ns : isStar a = false) : PA X (a :: es) (tPr X.K NM TB (parG P Φ Ψ ((i, lv) :: ls) (ia :: is)) W) := by
  refine PA.imp (L2.pa_cons ha hr (star_cons ns)) fun σ H Q ⟨δ, st, G, hE, hR, hw⟩ => ?_
  have hw : ((ev P Φ Ψ ia δ st).bnd fun d s => (if lv = true then live d s else .ok (raw d) s).bnd fun d s => (parG P Φ Ψ ls is δ s).bnd fun ps s => .ok ((i, d) :: ps) s).wp
    (fun ps st' => ∀ vs H' G', Ext G st G' st' → Rp X.K NM TB G' H' st' → RepRs X.K NM G' st'.length vs (ps.map (·.2)) → Q vs H') (EX X.K NM TB G st σ W) := hw
  refine seqD .refl hE hR hw fun x st1 v H1 G1 e1 _ hE1 r1 x1 hw1 => ?_
  have go : ∀ {d : Dat} {st2 : St} {G2 : Gw}, Ext G st G2 st2 → RepE X.K NM G2 st2.length σ δ → Rp X.K NM TB G2 H1 st2 → RepR X.K NM G2 st2.length v d → ((parG P Φ Ψ ls is δ st2).bnd fun ps s => .ok ((i, d) :: ps) s).wp
      (fun ps st' => ∀ vs H' G', Ext G st G' st' → Rp X.K NM TB G' H' st' → RepRs X.K NM G' st'.length vs (ps.map (·.2)) → Q vs H') (EX X.K NM TB G st σ W) →
      tPr X.K NM TB (parG P Φ Ψ ls is) W σ H1 fun xs H2 => Q (v :: xs) H2 := fun {d st2 G2} e2 hE2 r2 x2 hw2 => by
    refine ⟨δ, st2, G2, hE2, r2, ?_⟩
    cases eo : parG P Φ Ψ ls is δ st2 with
    | stuck => rw [eo] at hw2; exact hw2
    | err c fs s => rw [eo] at hw2; exact EX.from e2 hw2
    | ok ps s =>
      rw [eo] at hw2
      exact fun vs H' G' e3 r3 x3 => hw2 _ _ _ (e2.trans e3) r3 (.cons (x2.ext e3) x3)
  cases lv with
  | true =>
    obtain ⟨d, st2, G2, q, e2, r2, x2⟩ := r1.liveX x1
    have hw1 : ((live x st1).bnd fun d s => (parG P Φ Ψ ls is δ s).bnd fun ps s => .ok ((i, d) :: ps) s).wp
      (fun ps st' => ∀ vs H' G', Ext G st G' st' → Rp X.K NM TB G' H' st' → RepRs X.K NM G' st'.length vs (ps.map (·.2)) → Q vs H') (EX X.K NM TB G st σ W) := hw1
    rw [q] at hw1
    exact go (e1.trans e2) (hE1.ext e2) r2 x2 hw1
  | false =>
    obtain ⟨G2, e2, r2, x2⟩ := r1.rawX x1
    exact go (e1.trans e2) (hE1.ext e2) r2 x2 hw1
theorem parG_fst : ∀ {ls : List (Nat × Bool)} {is : List IE} {δ : Env} {s s' : St} {ps : List (Nat × Dat)}, parG P Φ Ψ ls is δ s = .ok ps s' → ps.map (·.1) = ls.map (·.1)
  | [], [], _, _, _, _, h => by cases h; rfl
  | [], _ :: _, _, _, _, _, h => by cases h
  | _ :: _, [], _, _, _, _, h => by cases h
  | l :: ls, i :: is, δ, s, s', ps, h => by
    obtain ⟨d, s1, h1, h2⟩ := Res.bnd_ok_inv (show (ev P Φ Ψ i δ s).bnd (fun d s => (if l.2 = true then live d s else .ok (raw d) s).bnd fun d s => (parG P Φ Ψ ls is δ s).bnd fun ps s => .ok ((l.1, d) :: ps) s) = .ok ps s' from h)
    obtain ⟨d2, s2, h3, h4⟩ := Res.bnd_ok_inv h2
    obtain ⟨qs, s3, h5, h6⟩ := Res.bnd_ok_inv h4
    cases h6
    simp only [List.map_cons, parG_fst h5]
theorem par_wp {ls : List (Nat × Bool)} {is : List IE} {δ : Env} {s : St} {K E'} {f : List (Nat × Dat) → St → REx} (h : ((parG P Φ Ψ ls is δ s).bnd f).wp K E') : (parG P Φ Ψ ls is δ s).wp (fun ps s => ps.map (·.1) = ls.map (·.1) ∧ (f ps s).wp K E') E' := by
  cases eo : parG P Φ Ψ ls is δ s with
  | stuck => rw [eo] at h; exact h
  | err c fs s => rw [eo] at h; exact h
  | ok ps s => rw [eo] at h; exact ⟨parG_fst eo, h⟩
theorem ds_par2 {i j : Nat} {x y : Str} {px py pt : Pos} {kt k2 : Nat} {pt2 : Pos} {l1 l2 : Bool} (hc : X.calm = true) (hN : X.N.Nodup) (hi : X.N[i]? = some x) (hj : X.N[j]? = some y) (hij : i ≠ j)
    (hx : X.env.scope.names.lookup x = some .local) (hy : X.env.scope.names.lookup y = some .local) (ha : DE X NM TB (WE E) P Φ Ψ a ia) (hb : DE X NM TB (WE E) P Φ Ψ b ib) (n1 : isStar a = false) (n2 : isStar b = false)
    (hw : swappedStores [.Tuple [.Name x px, .Name y py] kt pt] (.Tuple [a, b] k2 pt2) X.env = pure (some [x, y]))
    (hs : swapsWithSole [.Tuple [.Name x px, .Name y py] kt pt] (.Tuple [a, b] k2 pt2) pos.line X.env = pure false) :
    DS X NM TB E P Φ Ψ (.Assign [.Tuple [.Name x px, .Name y py] kt pt] (.Tuple [a, b] k2 pt2) pos) (.par [(i, l1), (j, l2)] [ia, ib]) := by
  refine PS.imp (L2.ps_par hc hN hi hj hij hx hy (dp_cons (i := i) (lv := l1) ha (dp_cons (i := j) (lv := l2) hb dp_nil n2) n1) hw hs) fun D σ H ⟨δ, st, G, hE, hR, hw⟩ => ?_
  refine ⟨δ, st, G, hE, hR, ?_⟩
  have hw := par_wp (f := fun ps s => .ok (Fl.nx, setAll ps δ) s) hw
  cases eo : parG P Φ Ψ [(i, l1), (j, l2)] [ia, ib] δ st with
  | stuck => rw [eo] at hw; exact hw
  | err c fs s => rw [eo] at hw; exact hw
  | ok ps s =>
    rw [eo] at hw
    obtain ⟨h1, h2⟩ := hw
    intro vs H' G' e1 r1 x1
    match ps, h1 with
    | [(_, d1), (_, d2)], h1 =>
      simp only [List.map_cons, List.map_nil, List.cons.injEq, and_true] at h1
      obtain ⟨rfl, rfl⟩ := h1
      cases x1 with
      | cons xa xr =>
        cases xr with
        | cons xb xn =>
          cases xn
          have := (hE.ext e1)
          exact ⟨_, _, rfl, h2 _ H' G' e1 r1 ((this.set xa _).set xb _)⟩
    | [], h1 => cases h1
    | [_], h1 => simp at h1
    | _ :: _ :: _ :: _, h1 => simp at h1
theorem ds_par3 {i j l : Nat} {x y z : Str} {px py pz pt : Pos} {kt k2 : Nat} {pt2 : Pos} {l1 l2 l3 : Bool} (hc : X.calm = true) (hN : X.N.Nodup) (hi : X.N[i]? = some x) (hj : X.N[j]? = some y) (hl : X.N[l]? = some z) (hij : i ≠ j) (hil : i ≠ l) (hjl : j ≠ l)
    (hx : X.env.scope.names.lookup x = some .local) (hy : X.env.scope.names.lookup y = some .local) (hz : X.env.scope.names.lookup z = some .local) (ha : DE X NM TB (WE E) P Φ Ψ a ia) (hb : DE X NM TB (WE E) P Φ Ψ b ib) (hcc : DE X NM TB (WE E) P Φ Ψ c ic) (n1 : isStar a = false) (n2 : isStar b = false) (n3 : isStar c = false)
    (hw : swappedStores [.Tuple [.Name x px, .Name y py, .Name z pz] kt pt] (.Tuple [a, b, c] k2 pt2) X.env = pure (some [x, y, z]))
    (hs : swapsWithSole [.Tuple [.Name x px, .Name y py, .Name z pz] kt pt] (.Tuple [a, b, c] k2 pt2) pos.line X.env = pure false) :
    DS X NM TB E P Φ Ψ (.Assign [.Tuple [.Name x px, .Name y py, .Name z pz] kt pt] (.Tuple [a, b, c] k2 pt2) pos) (.par [(i, l1), (j, l2), (l, l3)] [ia, ib, ic]) := by
  refine PS.imp (L2.ps_par3 hc hN hi hj hl hij hil hjl hx hy hz (dp_cons (i := i) (lv := l1) ha (dp_cons (i := j) (lv := l2) hb (dp_cons (i := l) (lv := l3) hcc dp_nil n3) n2) n1) hw hs) fun D σ H ⟨δ, st, G, hE, hR, hw⟩ => ?_
  refine ⟨δ, st, G, hE, hR, ?_⟩
  have hw := par_wp (f := fun ps s => .ok (Fl.nx, setAll ps δ) s) hw
  cases eo : parG P Φ Ψ [(i, l1), (j, l2), (l, l3)] [ia, ib, ic] δ st with
  | stuck => rw [eo] at hw; exact hw
  | err c fs s => rw [eo] at hw; exact hw
  | ok ps s =>
    rw [eo] at hw
    obtain ⟨h1, h2⟩ := hw
    intro vs H' G' e1 r1 x1
    match ps, h1 with
    | [(_, d1), (_, d2), (_, d3)], h1 =>
      simp only [List.map_cons, List.map_nil, List.cons.injEq, and_true] at h1
      obtain ⟨rfl, rfl, rfl⟩ := h1
      cases x1 with
      | cons xa xr =>
        cases xr with
        | cons xb xr =>
          cases xr with
          | cons xc xn =>
            cases xn
            have := (hE.ext e1)
            exact ⟨_, _, _, rfl, h2 _ H' G' e1 r1 (((this.set xa _).set xb _).set xc _)⟩
    | [], h1 => cases h1
    | [_], h1 => simp at h1
    | [_, _], h1 => simp at h1
    | _ :: _ :: _ :: _ :: _, h1 => simp at h1
/-- l[i] of a list, by values -/
theorem get_ok : L2.PGet X (L2.rIxL X.K) := by
  intro pins s σ H x y v u Q I rx ry h
  obtain ⟨p, xs, i, z, rfl, rfl, hq, he, q⟩ := h
  cases rx
  obtain ⟨t, rfl⟩ := ry
  obtain ⟨its, r, pl, hz⟩ := I.list hq
  obtain ⟨j, h1, h2, h3, h4, h5⟩ := L2.atI_get he
  obtain ⟨w, ew, rw'⟩ := r.get h2
  have hl := r.length
  have hn := L2.line63
  have fin : EP X pins σ Q w s := ⟨z, H, I, rw', q⟩
  by_cases h0 : 0 ≤ i
  · have hj : i.toNat = j := by
      rw [seqIndex_of h0 h5] at h1
      exact Option.some.inj h1
    exact wpAny_getItem_list pl.isList h0 (by omega) (by rw [hj]; simpa using ew) fin
  · have hj : (i + (its.toArray.size : Int)).toNat = j := by
      rw [seqIndex_neg (by omega) h4] at h1
      rw [List.size_toArray, ← hl]
      exact Option.some.inj h1
    exact wpAny_getItem_list_neg pl.isList (by omega) (by rw [List.size_toArray] <;> omega) (by omega) (by rw [hj]; simpa using ew) fin
def rIp (f : Int → Int → Int) : L2.TIp := L2.ipI f
theorem ds_augIx (tp : TbP TB) (hu : X.A.units + 1 < cLine) (op : BOp) (hop : op = .add ∨ op = .sub) (ho : DE X NM TB (WE E) P Φ Ψ a ia) (hi : DE X NM TB (WE E) P Φ Ψ b ib) (he : DE X NM TB (WE E) P Φ Ψ c ic)
    (ha : ∀ ov iv new, augStore b ov iv new = (do holding [new, ov, iv] (setItem ov iv new); release [new, ov, iv] []; pure .next)) : DS X NM TB E P Φ Ψ (.AugAssign (.Subscript a b p') op.op c pos) (.augIx ia ib op ic) := by
  have key : ∀ (f : Int → Int → Int) (o : Operator), L2.PIp X o (L2.ipI f) → op.op = o → (∀ m n, binop op (.int m) (.int n) = some (.int (f m n))) → DS X NM TB E P Φ Ψ (.AugAssign (.Subscript a b p') op.op c pos) (.augIx ia ib op ic) := by
    intro f o hp hoo hb
    subst hoo
    refine PS.imp (L2.ps_augS ho hi get_ok he hp (set_ok hu) ha) fun D σ H ⟨δ, st, G, hE, hR, hw⟩ => ?_
    refine seqD (W := WE E) .refl hE hR hw fun y st1 o H1 G1 e1 _ hE1 r1 x1 hw1 => ?_
    refine seqD (W := WE E) e1 hE1 r1 hw1 fun z st2 i H2 G2 e2 l2 hE2 r2 x2 hw2 => ?_
    have hw2 : (if isLst st2 y = true then (opt (ixL (view st2 y) z) st2).bnd fun x s => (ev P Φ Ψ ic δ s).bnd fun w s => (opt (match x, w with
      | .int _, .int _ => binop op x w
      | _, _ => none) s).bnd fun u s => (storeIx y z u s).bnd fun _ s => .ok (Fl.nx, δ) s else .stuck).wp (KS X.K NM TB G st D) (EX X.K NM TB G st [] (WE E)) := hw2
    by_cases hy : isLst st2 y = true
    · rw [if_pos hy] at hw2
      obtain ⟨w, hw0, hw3⟩ := wp_optb hw2
      obtain ⟨k0, xs, rfl, hxs⟩ := isLst_some hy
      rw [view_obj hxs] at hw0
      cases z with
      | int k =>
        have hw0 : L2.atI xs k = some w := hw0
        have howner : o = .ref (G2.ι k0) := by rw [l2.ι _ x1.1]; exact x1.2
        subst howner
        obtain ⟨vs, g1, g2, g3⟩ := r2.cells k0 _ hxs
        obtain ⟨wv, hwv, rwv⟩ := atI_rep g3 hw0
        refine ⟨_, vs, k, wv, rfl, rx_int x2, SqL.of g1, hwv, ?_⟩
        refine seqD (W := WE E) e2 hE2 r2 hw3 fun q st3 qv H3 G3 e3 l3 hE3 r3 x3 hw4 => ?_
        obtain ⟨u, hu0, hw5⟩ := wp_optb hw4
        cases w with
        | int m =>
          cases q with
          | int n =>
            have hu0 : binop op (.int m) (.int n) = some u := hu0
            rw [hb] at hu0
            cases hu0
            refine ⟨m, n, by cases rwv; rfl, rx_int x3, ?_⟩
            exact ix_use tp e3 hE3 r3 (fun k' hk' => by cases hk'; exact ⟨Nat.lt_of_lt_of_le (Nat.lt_of_lt_of_le x1.1 l2.len) l3.len, by rw [l3.ι _ (Nat.lt_of_lt_of_le x1.1 l2.len)]⟩) (show RepX X.K NM G3 H3 st3 i (.int k) from by rw [rx_int x2]; exact RepV.toX (.int _)) (.int _) hw5
          | _ => cases hu0
        | _ => cases q <;> cases hu0
      | _ => cases hw0
    · rw [if_neg hy] at hw2; exact hw2.elim
  rcases hop with rfl | rfl
  · exact key (fun i j => i + j) .Add L2.ip_add rfl fun _ _ => rfl
  · exact key (fun i j => i - j) .Sub L2.ip_sub rfl fun _ _ => rfl
end
end Z

set_option linter.all false
set_option maxRecDepth 100000
set_option maxHeartbeats 2000000
namespace Z
open PySem PySem.Spec PyProof.Rows
open L2 (V Hp HO Key VK XK TE TT TA TS TG TGs TO TI WX Cx Inv Ends SqL SqT Same upd upd_same upd_ne ne_of ne_of_none OpR UnR CallR R2 Dp DpAll IxR SlR PE PT PW PA PS PSs PG PGs PI PO PTs PK FnOk Room Vals RelV Sp EP thn MtR)
open L2 (Takes XE BlkOk)
section
variable {X : Cx} {NM : Nm} {TB : Hp → Prop} {W : WX} {P : Prog} {Φ Ψ : Fun} {a b c e : Expr} {ia ib ic : IE} {p pos p' apos : Pos}
theorem star1' {a : Expr} {env : PySem.Env} (h : isStar a = false) : starEach [a] env = [(false, eval a env)] := star_cons h
theorem seq_kind {K : PySem.W.Frag} {F : Hp} {v : V} {d : Dat} {xs : List Dat} (x : RepV K NM F v d) (h : seqOf d = some xs) :
    (isTupD d = false ∧ ∃ a vs, v = .ref a ∧ RepVs K NM F vs xs ∧ SqL K F a vs) ∨ (isTupD d = true ∧ ∃ a vs, v = .ref a ∧ RepVs K NM F vs xs ∧ SqT K F a vs) := by
  cases x with
  | lst e r => cases h; exact .inl ⟨rfl, _, _, rfl, r, .inl (.inl e)⟩
  | tup e r => cases h; exact .inr ⟨rfl, _, _, rfl, r, e⟩
  | rol e => cases h; exact .inl ⟨rfl, _, _, rfl, RepVs.ints _, e⟩
  | _ => cases h
theorem di_zip2 {elts : List Expr} {kk : Nat} {tpos : Pos} (tp : TbP TB) (hg : L2.Gl X "zip") (hm : X.mg "zip" = none) (ha : DE X NM TB W P Φ Ψ a ia) (hb : DE X NM TB W P Φ Ψ b ib) (n1 : isStar a = false) (n2 : isStar b = false) :
    DI X NM TB W P Φ Ψ (.Tuple elts kk tpos) (.Call (.Name "zip" p) [a, b] [] pos) (.zip2 ia ib) := by
  have hs2 : starEach [b] X.env = [(false, eval b X.env)] := star1' n2
  have hs : starEach [a, b] X.env = [(false, eval a X.env), (false, eval b X.env)] := by rw [star_cons n1, hs2]
  refine PI.imp' (RZ.pi_zipA hg hm (L2.pa_cons ha (L2.pa_cons hb L2.pa_nil hs2) (by rw [hs, hs2])) (by rw [hs, hs2]) (by rw [hs2]; rfl)) fun σ H R ⟨δ, st, G, hE, hR, hw⟩ => ?_
  refine seqS .refl hE hR hw fun x st1 v H1 G1 e1 _ hE1 r1 x1 hw1 => ?_
  refine seqS e1 hE1 r1 hw1 fun y st2 u H2 G2 e2 l2 hE2 r2 x2 hw2 => ?_
  have hw2 : (match seqOf x, seqOf y with
    | some xs, some ys => if isTupD x == isTupD y then Res.ok ((xs.zip ys).map fun (p : Dat × Dat) => Dat.tup [p.1, p.2]) st2 else .stuck
    | _, _ => .stuck : Res (List Dat)).wp _ _ := hw2
  have x1' := x1.mono l2.sub
  cases hx : seqOf x with
  | none => rw [hx] at hw2; exact hw2.elim
  | some xs =>
    cases hy : seqOf y with
    | none => rw [hx, hy] at hw2; exact hw2.elim
    | some ys =>
      rw [hx, hy] at hw2
      by_cases hq : (isTupD x == isTupD y) = true
      · have hw2 : (if (isTupD x == isTupD y) = true then Res.ok ((xs.zip ys).map fun (p : Dat × Dat) => Dat.tup [p.1, p.2]) st2 else .stuck : Res (List Dat)).wp _ _ := hw2
        rw [if_pos hq] at hw2
        rcases seq_kind x1' hx with ⟨k1, t1, vs, rfl, rv, q1⟩ | ⟨k1, t1, vs, rfl, rv, q1⟩ <;> rcases seq_kind x2 hy with ⟨k2, t2, us, rfl, ru, q2⟩ | ⟨k2, t2, us, rfl, ru, q2⟩
        · exact ⟨t1, t2, vs, us, rfl, .inl ⟨SqL_mono r2.sub q1, SqL_mono r2.sub q2, hw2 _ _ _ e2 r2 (.zipL tp q1 q2 rv ru)⟩⟩
        · rw [k1, k2] at hq; cases hq
        · rw [k1, k2] at hq; cases hq
        · exact ⟨t1, t2, vs, us, rfl, .inr ⟨SqT_mono r2.sub q1, SqT_mono r2.sub q2, hw2 _ _ _ e2 r2 (.zipT tp q1 q2 rv ru)⟩⟩
      · have hw2 : (if (isTupD x == isTupD y) = true then Res.ok ((xs.zip ys).map fun (p : Dat × Dat) => Dat.tup [p.1, p.2]) st2 else .stuck : Res (List Dat)).wp _ _ := hw2
        rw [if_neg hq] at hw2
        exact hw2.elim
end
end Z

set_option linter.all false
set_option maxRecDepth 100000
set_option maxHeartbeats 2000000
namespace Z
section
open PySem PySem.Spec PyProof.Rows
/-- v counts k -/
def Cnt (v : Value) (k : Int) : Prop := (∃ t, v = .int k t) ∨ ∃ b, v = .bool b ∧ k = if b = true then (1 : Int) else 0
section
variable {prog : Program} {w : World} {A : Around} {R : Result → Shared → Prop} {I : Addr} {fp wr : List Addr} {G : Array GenState → Array GenState → Prop} {n : Nat} {P : Nat → Value → Prop} {St : Nat → Shared → Prop}
theorem cnt_add {E : Value → Shared → Prop} {s : Shared} {v : Value} {k a : Int} {t : Tok} {Q : Value → Shared → Prop} (c : Cnt v k) (h : Q (.int (a + k) s.toks) { s with toks := s.toks + 1 }) : wpAny (model prog w) A (binaryOp .Add (.int a t) v) Q E s := by
  rcases c with ⟨u, rfl⟩ | ⟨b, rfl, rfl⟩
  · exact wpAny_add_int h
  · exact add_int_bool h
theorem ite_both {α : Type} {p : Model} {A : Around} {c : Bool} {x y : Sem α} {Q : α → Shared → Prop} {E : Value → Shared → Prop} {s : Shared} (h1 : wpAny p A x Q E s) (h2 : wpAny p A y Q E s) : wpAny p A (if c = true then x else y) Q E s := by
  cases c
  · exact h2
  · exact h1
theorem sum_loopC (W : WalksS prog w A.in1 I fp wr G n P St) (val : Nat → Int) (hval : ∀ i v, P i v → Cnt v (val i)) (S : Addr) (hSf : S ∉ fp) :
    ∀ (k i : Nat) (s : Shared) (tA : Tok) (c : Nat) (st : Int), (st = 0 ∨ st = 2) → n - i = k → i ≤ n → St i s → s.heap.get? S = some { cls := .type "list", dict := none, data := .seq #[.int (preSum val i) tA] c, slots := #[] } →
    (∀ s' t', Moved (S :: wr) G s s' → R (.ok (.ret (.int (preSum val n) t'))) s') → codeAny (model prog w) A (.builtin "sum.loop" ⟨[.ref I, .ref S, rawInt st, rawInt 0], []⟩) R s := by
  have hSw : S ∉ wr := fun h => hSf (W.sub _ h)
  have hsub : ∀ b ∈ wr, b ∈ S :: wr := fun b hb => List.mem_cons_of_mem _ hb
  intro k
  induction k with
  | zero =>
    intro i s tA c st hst2 hk hi hst hS hR
    have hin : i = n := by omega
    subst hin
    refine codeAny_builtin F.entry_sum_loop ?_
    rw [Around.under_plainId F.plain_sum_loop _]
    show wpAny _ A.in1 (seqItems? (.ref S) >>= _) _ _ s
    refine wpAny_bind (wpAny_seqItems hS rfl ?_)
    show wpAny _ A.in1 (tryCatch (pyNext (.ref I)) _ >>= _) _ _ s
    refine wpAny_bind (wpAny_tryCatch (W.done s _ _ hst fun s' hm => ?_))
    exact wpAny_pure (hR s' tA (hm.mono hsub))
  | succ k ih =>
    intro i s tA c st hst2 hk hi hst hS hR
    have hlt : i < n := by omega
    refine codeAny_builtin F.entry_sum_loop ?_
    rw [Around.under_plainId F.plain_sum_loop _]
    show wpAny _ A.in1 (seqItems? (.ref S) >>= _) _ _ s
    refine wpAny_bind (wpAny_seqItems hS rfl ?_)
    show wpAny _ A.in1 (tryCatch (pyNext (.ref I)) _ >>= _) _ _ s
    refine wpAny_bind (wpAny_tryCatch (W.item i s _ _ hlt hst fun v s' hP hst' hm => ?_))
    have hc := hval i v hP
    have hS' := hm.heap S _ hSw hS
    have go : ∀ st', (st' = 0 ∨ st' = 2) → ∀ (s1 : Shared) (t1 : Tok) (c1 : Nat), St (i + 1) s1 → s1.heap.get? S = some { cls := .type "list", dict := none, data := .seq #[.int (preSum val (i + 1)) t1] c1, slots := #[] } → Moved (S :: wr) G s s1 →
        codeAny (model prog w) A (.builtin "sum.loop" ⟨[.ref I, .ref S, rawInt st', rawInt 0], []⟩) R s1 := fun st' e2 s1 t1 c1 h1 h2 h3 =>
      ih (i + 1) s1 t1 c1 st' e2 (by omega) hlt h1 h2 fun s'' t'' hm'' => hR s'' t'' (Moved.trans W.gtrans h3 hm'')
    have hpre : preSum val (i + 1) = preSum val i + val i := rfl
    rw [hpre] at go
    rcases hc with ⟨t, rfl⟩ | ⟨b0, rfl, hv⟩
    · skip
      rcases hst2 with rfl | rfl
      · show wpAny _ A.in1 (if (_ : Bool) = true then (mkInt (preSum val i + val i) >>= _) else _) _ _ _
        refine ite_both ?_ ?_
        · refine wpAny_bind (wpAny_mkInt ?_)
          show wpAny _ A.in1 (updateSeq S (fun _ => #[.int (preSum val i + val i) s'.toks]) >>= _) _ _ _
          refine wpAny_bind ?_
          refine wpAny_updateSeq hS' rfl (wpAny_pure ⟨plainId_quiet F.plain_sum_loop _, go 0 (.inl rfl) _ s'.toks _ (W.frame _ s' _ _ hst' (by first | exact Nat.le_refl _ | exact Nat.le_succ _ | omega) fun b hb o e => ?_) (Heap.get?_update_self _ hS' rfl) ((hm.mono hsub).then_heap (by first | exact Nat.le_refl _ | exact Nat.le_succ _ | omega) fun b o hb e => ?_)⟩)
          · exact (Heap.get?_update_other _ _ (fun h : S = b => hSf (by rw [h]; exact hb))).trans e
          · exact (Heap.get?_update_other _ _ (fun h : S = b => hb (by rw [h]; exact List.mem_cons_self))).trans e
        · refine wpAny_bind (wpAny_rule ?_)
          refine wpAny_bind (wpAny_attempt (wpAny_holding (wpAny_add_int ?_)))
          show wpAny _ A.in1 (updateSeq S (fun _ => #[.int (preSum val i + val i) s'.toks]) >>= _) _ _ _
          refine wpAny_bind (wpAny_updateSeq hS' rfl ?_)
          have hS₂ := Heap.get?_update_self (Obj.mapSeq fun _ => #[Value.int (preSum val i + val i) s'.toks]) hS' rfl
          refine wpAny_bind (wpAny_letGo ?_)
          refine wpAny_bind (wpAny_updateSeq hS₂ rfl (wpAny_pure ⟨plainId_quiet F.plain_sum_loop _, go 2 (.inr rfl) _ s'.toks _ (W.frame _ s' _ _ hst' (by first | exact Nat.le_refl _ | exact Nat.le_succ _ | omega) fun b hb o e => ?_) (Heap.get?_update_self _ hS₂ rfl) ((hm.mono hsub).then_heap (by first | exact Nat.le_refl _ | exact Nat.le_succ _ | omega) fun b o hb e => ?_)⟩))
          · exact (Heap.get?_update_other _ _ (fun h : S = b => hSf (by rw [h]; exact hb))).trans ((Heap.get?_update_other _ _ (fun h : S = b => hSf (by rw [h]; exact hb))).trans e)
          · exact (Heap.get?_update_other _ _ (fun h : S = b => hb (by rw [h]; exact List.mem_cons_self))).trans ((Heap.get?_update_other _ _ (fun h : S = b => hb (by rw [h]; exact List.mem_cons_self))).trans e)
      · show wpAny _ A.in1 ((holding [_] (binaryOp .Add (.int (preSum val i) tA) _)).attempt >>= _) _ _ _
        refine wpAny_bind (wpAny_attempt (wpAny_holding (wpAny_add_int ?_)))
        show wpAny _ A.in1 (updateSeq S (fun _ => #[.int (preSum val i + val i) s'.toks]) >>= _) _ _ _
        refine wpAny_bind (wpAny_updateSeq hS' rfl ?_)
        have hS₂ := Heap.get?_update_self (Obj.mapSeq fun _ => #[Value.int (preSum val i + val i) s'.toks]) hS' rfl
        refine wpAny_bind (wpAny_letGo ?_)
        refine wpAny_bind (wpAny_updateSeq hS₂ rfl (wpAny_pure ⟨plainId_quiet F.plain_sum_loop _, go 2 (.inr rfl) _ s'.toks _ (W.frame _ s' _ _ hst' (by first | exact Nat.le_refl _ | exact Nat.le_succ _ | omega) fun b hb o e => ?_) (Heap.get?_update_self _ hS₂ rfl) ((hm.mono hsub).then_heap (by first | exact Nat.le_refl _ | exact Nat.le_succ _ | omega) fun b o hb e => ?_)⟩))
        · exact (Heap.get?_update_other _ _ (fun h : S = b => hSf (by rw [h]; exact hb))).trans ((Heap.get?_update_other _ _ (fun h : S = b => hSf (by rw [h]; exact hb))).trans e)
        · exact (Heap.get?_update_other _ _ (fun h : S = b => hb (by rw [h]; exact List.mem_cons_self))).trans ((Heap.get?_update_other _ _ (fun h : S = b => hb (by rw [h]; exact List.mem_cons_self))).trans e)
    · cases b0
      · have hv : val i = 0 := hv
        rw [hv] at go
        rcases hst2 with rfl | rfl
        · show wpAny _ A.in1 (if (_ : Bool) = true then (mkInt (preSum val i + 0) >>= _) else _) _ _ _
          refine ite_both ?_ ?_
          · refine wpAny_bind (wpAny_mkInt ?_)
            show wpAny _ A.in1 (updateSeq S (fun _ => #[.int (preSum val i + 0) s'.toks]) >>= _) _ _ _
            refine wpAny_bind ?_
            refine wpAny_updateSeq hS' rfl (wpAny_pure ⟨plainId_quiet F.plain_sum_loop _, go 0 (.inl rfl) _ s'.toks _ (W.frame _ s' _ _ hst' (by first | exact Nat.le_refl _ | exact Nat.le_succ _ | omega) fun b hb o e => ?_) (Heap.get?_update_self _ hS' rfl) ((hm.mono hsub).then_heap (by first | exact Nat.le_refl _ | exact Nat.le_succ _ | omega) fun b o hb e => ?_)⟩)
            · exact (Heap.get?_update_other _ _ (fun h : S = b => hSf (by rw [h]; exact hb))).trans e
            · exact (Heap.get?_update_other _ _ (fun h : S = b => hb (by rw [h]; exact List.mem_cons_self))).trans e
          · refine wpAny_bind (wpAny_rule ?_)
            refine wpAny_bind (wpAny_attempt (wpAny_holding (add_int_bool ?_)))
            show wpAny _ A.in1 (updateSeq S (fun _ => #[.int (preSum val i + 0) s'.toks]) >>= _) _ _ _
            refine wpAny_bind (wpAny_updateSeq hS' rfl ?_)
            have hS₂ := Heap.get?_update_self (Obj.mapSeq fun _ => #[Value.int (preSum val i + 0) s'.toks]) hS' rfl
            refine wpAny_bind (wpAny_letGo ?_)
            refine wpAny_bind (wpAny_updateSeq hS₂ rfl (wpAny_pure ⟨plainId_quiet F.plain_sum_loop _, go 2 (.inr rfl) _ s'.toks _ (W.frame _ s' _ _ hst' (by first | exact Nat.le_refl _ | exact Nat.le_succ _ | omega) fun b hb o e => ?_) (Heap.get?_update_self _ hS₂ rfl) ((hm.mono hsub).then_heap (by first | exact Nat.le_refl _ | exact Nat.le_succ _ | omega) fun b o hb e => ?_)⟩))
            · exact (Heap.get?_update_other _ _ (fun h : S = b => hSf (by rw [h]; exact hb))).trans ((Heap.get?_update_other _ _ (fun h : S = b => hSf (by rw [h]; exact hb))).trans e)
            · exact (Heap.get?_update_other _ _ (fun h : S = b => hb (by rw [h]; exact List.mem_cons_self))).trans ((Heap.get?_update_other _ _ (fun h : S = b => hb (by rw [h]; exact List.mem_cons_self))).trans e)
        · show wpAny _ A.in1 ((holding [_] (binaryOp .Add (.int (preSum val i) tA) _)).attempt >>= _) _ _ _
          refine wpAny_bind (wpAny_attempt (wpAny_holding (add_int_bool ?_)))
          show wpAny _ A.in1 (updateSeq S (fun _ => #[.int (preSum val i + 0) s'.toks]) >>= _) _ _ _
          refine wpAny_bind (wpAny_updateSeq hS' rfl ?_)
          have hS₂ := Heap.get?_update_self (Obj.mapSeq fun _ => #[Value.int (preSum val i + 0) s'.toks]) hS' rfl
          refine wpAny_bind (wpAny_letGo ?_)
          refine wpAny_bind (wpAny_updateSeq hS₂ rfl (wpAny_pure ⟨plainId_quiet F.plain_sum_loop _, go 2 (.inr rfl) _ s'.toks _ (W.frame _ s' _ _ hst' (by first | exact Nat.le_refl _ | exact Nat.le_succ _ | omega) fun b hb o e => ?_) (Heap.get?_update_self _ hS₂ rfl) ((hm.mono hsub).then_heap (by first | exact Nat.le_refl _ | exact Nat.le_succ _ | omega) fun b o hb e => ?_)⟩))
          · exact (Heap.get?_update_other _ _ (fun h : S = b => hSf (by rw [h]; exact hb))).trans ((Heap.get?_update_other _ _ (fun h : S = b => hSf (by rw [h]; exact hb))).trans e)
          · exact (Heap.get?_update_other _ _ (fun h : S = b => hb (by rw [h]; exact List.mem_cons_self))).trans ((Heap.get?_update_other _ _ (fun h : S = b => hb (by rw [h]; exact List.mem_cons_self))).trans e)
      · have hv : val i = 1 := hv
        rw [hv] at go
        rcases hst2 with rfl | rfl
        · show wpAny _ A.in1 (if (_ : Bool) = true then (mkInt (preSum val i + 1) >>= _) else _) _ _ _
          refine ite_both ?_ ?_
          · refine wpAny_bind (wpAny_mkInt ?_)
            show wpAny _ A.in1 (updateSeq S (fun _ => #[.int (preSum val i + 1) s'.toks]) >>= _) _ _ _
            refine wpAny_bind ?_
            refine wpAny_updateSeq hS' rfl (wpAny_pure ⟨plainId_quiet F.plain_sum_loop _, go 0 (.inl rfl) _ s'.toks _ (W.frame _ s' _ _ hst' (by first | exact Nat.le_refl _ | exact Nat.le_succ _ | omega) fun b hb o e => ?_) (Heap.get?_update_self _ hS' rfl) ((hm.mono hsub).then_heap (by first | exact Nat.le_refl _ | exact Nat.le_succ _ | omega) fun b o hb e => ?_)⟩)
            · exact (Heap.get?_update_other _ _ (fun h : S = b => hSf (by rw [h]; exact hb))).trans e
            · exact (Heap.get?_update_other _ _ (fun h : S = b => hb (by rw [h]; exact List.mem_cons_self))).trans e
          · refine wpAny_bind (wpAny_rule ?_)
            refine wpAny_bind (wpAny_attempt (wpAny_holding (add_int_bool ?_)))
            show wpAny _ A.in1 (updateSeq S (fun _ => #[.int (preSum val i + 1) s'.toks]) >>= _) _ _ _
            refine wpAny_bind (wpAny_updateSeq hS' rfl ?_)
            have hS₂ := Heap.get?_update_self (Obj.mapSeq fun _ => #[Value.int (preSum val i + 1) s'.toks]) hS' rfl
            refine wpAny_bind (wpAny_letGo ?_)
            refine wpAny_bind (wpAny_updateSeq hS₂ rfl (wpAny_pure ⟨plainId_quiet F.plain_sum_loop _, go 2 (.inr rfl) _ s'.toks _ (W.frame _ s' _ _ hst' (by first | exact Nat.le_refl _ | exact Nat.le_succ _ | omega) fun b hb o e => ?_) (Heap.get?_update_self _ hS₂ rfl) ((hm.mono hsub).then_heap (by first | exact Nat.le_refl _ | exact Nat.le_succ _ | omega) fun b o hb e => ?_)⟩))
            · exact (Heap.get?_update_other _ _ (fun h : S = b => hSf (by rw [h]; exact hb))).trans ((Heap.get?_update_other _ _ (fun h : S = b => hSf (by rw [h]; exact hb))).trans e)
            · exact (Heap.get?_update_other _ _ (fun h : S = b => hb (by rw [h]; exact List.mem_cons_self))).trans ((Heap.get?_update_other _ _ (fun h : S = b => hb (by rw [h]; exact List.mem_cons_self))).trans e)
        · show wpAny _ A.in1 ((holding [_] (binaryOp .Add (.int (preSum val i) tA) _)).attempt >>= _) _ _ _
          refine wpAny_bind (wpAny_attempt (wpAny_holding (add_int_bool ?_)))
          show wpAny _ A.in1 (updateSeq S (fun _ => #[.int (preSum val i + 1) s'.toks]) >>= _) _ _ _
          refine wpAny_bind (wpAny_updateSeq hS' rfl ?_)
          have hS₂ := Heap.get?_update_self (Obj.mapSeq fun _ => #[Value.int (preSum val i + 1) s'.toks]) hS' rfl
          refine wpAny_bind (wpAny_letGo ?_)
          refine wpAny_bind (wpAny_updateSeq hS₂ rfl (wpAny_pure ⟨plainId_quiet F.plain_sum_loop _, go 2 (.inr rfl) _ s'.toks _ (W.frame _ s' _ _ hst' (by first | exact Nat.le_refl _ | exact Nat.le_succ _ | omega) fun b hb o e => ?_) (Heap.get?_update_self _ hS₂ rfl) ((hm.mono hsub).then_heap (by first | exact Nat.le_refl _ | exact Nat.le_succ _ | omega) fun b o hb e => ?_)⟩))
          · exact (Heap.get?_update_other _ _ (fun h : S = b => hSf (by rw [h]; exact hb))).trans ((Heap.get?_update_other _ _ (fun h : S = b => hSf (by rw [h]; exact hb))).trans e)
          · exact (Heap.get?_update_other _ _ (fun h : S = b => hb (by rw [h]; exact List.mem_cons_self))).trans ((Heap.get?_update_other _ _ (fun h : S = b => hb (by rw [h]; exact List.mem_cons_self))).trans e)
end
section
variable {prog : Program} {w : World} {A : Around} {E : Value → Shared → Prop} {s : Shared}
theorem call_sumC {x : Value} {Q : Value → Shared → Prop}
    (h : wpAny (model prog w) A.in1 (pyIter x) (fun it s₂ => ∃ I fp wr G n P St val, it = .ref I ∧ WalksS prog w A.in1 I fp wr G n P St ∧ St 0 s₂ ∧ (∀ b ∈ fp, b < s₂.heap.objs.size) ∧
      (∀ i v, P i v → Cnt v (val i)) ∧
      ∀ s' t', Moved wr G s₂ s' → Q (.int (preSum val n) t') s') E s) :
    wpAny (model prog w) A (call (.builtin "sum") [x]) Q E s := by
  refine call_function_tree F.kind_sum F.plain_sum F.entry_sum (F.args_sum1 _) ?_
  unfold Builtin.«sum»
  simp only [List.length_cons, List.length_nil]
  rw [if_neg (by decide)]
  refine wpAny_bind (wpAny_of_eq (show Builtin.Builtins.bindParams "sum" ["start"] 0 { } = pure [none] from rfl) ?_)
  refine wpAny_bind (wpAny_mono h (fun it s₂ h₂ => ?_) fun _ _ e => e)
  obtain ⟨I, fp, wr, G, n, P, St, val, rfl, W, hst, hfp, hval, hQ⟩ := h₂
  refine wpAny_bind (wpAny_mkInt ?_)
  refine wpAny_bind (wpAny_pure ?_)
  simp only [List.forIn_cons, List.forIn_nil]
  refine wpAny_bind (wpAny_bind (wpAny_bind (wpAny_isInstance (T := "int") (b := false) (typeIs_int _ _ _) PySem.sub_int_str ?_)))
  simp only [Bool.false_eq_true, if_false]
  refine wpAny_pure (wpAny_bind (wpAny_bind (wpAny_isInstance (T := "int") (b := false) (typeIs_int _ _ _) PySem.sub_int_bytes ?_)))
  simp only [Bool.false_eq_true, if_false]
  refine wpAny_pure (wpAny_bind (wpAny_bind (wpAny_isInstance (T := "int") (b := false) (typeIs_int _ _ _) PySem.sub_int_bytearray ?_)))
  simp only [Bool.false_eq_true, if_false]
  refine wpAny_pure (wpAny_pure ?_)
  refine wpAny_bind (wpAny_newObj_type ?_)
  have hSf : s₂.heap.objs.size ∉ fp := fun hm => Nat.lt_irrefl _ (hfp _ hm)
  refine wpAny_pure ⟨plainId_quiet F.plain_sum_loop _, sum_loopC W val hval s₂.heap.objs.size hSf n 0 _ s₂.toks 0 0 (.inl rfl) rfl (Nat.zero_le _)
    (W.frame 0 s₂ _ _ hst (by first | exact Nat.le_refl _ | exact Nat.le_succ _ | omega) fun b _ o e => Heap.get?_push_of_some _ e) (Heap.get?_push_size _ rfl) fun s' t' hm => ?_⟩
  exact hQ s' t' (hm.drop_new (by first | exact Nat.le_refl _ | exact Nat.le_succ _ | omega))
/-- what the items count -/
inductive Cnts : List Value → List Int → Prop where
  | nil : Cnts [] []
  | cons {v k vs ks} : Cnt v k → Cnts vs ks → Cnts (v :: vs) (k :: ks)
theorem Cnts.at : ∀ {vs : List Value} {ks : List Int} {i : Nat} {v : Value}, Cnts vs ks → vs[i]? = some v → Cnt v (ks.getD i 0)
  | _, _, 0, _, .cons c _, h => by
    have := Option.some.inj h
    subst this
    exact c
  | _, _, i + 1, _, .cons _ r, h => by
    have := Cnts.at r (i := i) (by simpa using h)
    simpa using this
theorem preSum_getD : ∀ (ks : List Int) (n : Nat), n ≤ ks.length → preSum (fun i => ks.getD i 0) n = (ks.take n).sum
  | ks, 0, _ => by simp [preSum]
  | ks, n + 1, h => by
    have ih := preSum_getD ks n (by omega)
    show preSum (fun i => ks.getD i 0) n + ks.getD n 0 = _
    rw [ih, List.take_succ, List.sum_append]
    have : ks[n]? = some (ks[n]'(by omega)) := List.getElem?_eq_getElem (by omega)
    simp [List.getD, this]
theorem Cnts.length : ∀ {vs : List Value} {ks : List Int}, Cnts vs ks → vs.length = ks.length
  | _, _, .nil => rfl
  | _, _, .cons _ r => congrArg (· + 1) r.length
theorem call_sum_tup {vs : List Value} {ks : List Int} {t : Addr} {Q : Value → Shared → Prop} (hh : A.handled = none) (ht : s.heap.IsTuple t vs.toArray) (hc : Cnts vs ks)
    (h : ∀ h' tk t', (∀ b o, s.heap.get? b = some o → h'.get? b = some o) → Q (.int ks.sum t') { s with heap := h', toks := tk }) :
    wpAny (model prog w) A (call (.builtin "sum") [.ref t]) Q E s := by
  obtain ⟨o, ho, hcl, n, hd⟩ := id ht
  have hne : t ≠ s.heap.objs.size := Nat.ne_of_lt (Heap.lt_size ho)
  have hsz : vs.toArray.size = ks.length := by rw [List.size_toArray]; exact hc.length
  have W := (Walks.tuple (prog := prog) (w := w) (A := A.in1) hh s.heap.objs.size t hne vs.toArray).toS
  rw [hsz] at W
  refine call_sumC (wpAny_pyIter_tuple ht ?_)
  refine ⟨s.heap.objs.size, _, _, _, _, _, _, fun i => ks.getD i 0, rfl, W, ⟨⟨_, Heap.get?_push_size _ rfl, rfl, rfl⟩, ht.at fun o e => Heap.get?_push_of_some _ e⟩, fun b hb => ?_, fun i v hP => hc.at (by simpa using hP), fun s' t' hm => ?_⟩
  · rcases List.mem_cons.mp hb with rfl | hb
    · exact Heap.lt_size (Heap.get?_push_size _ rfl)
    · obtain rfl := List.mem_singleton.mp hb
      exact Heap.lt_size (Heap.get?_push_of_some _ ho)
  · obtain ⟨h', g', d', tk', os'⟩ := s'
    have e1 : g' = s.gens := hm.gens
    have e2 : d' = s.drawn := hm.drawn
    have e3 : os' = s.os := hm.os
    subst e1 e2 e3
    rw [preSum_getD ks _ (Nat.le_refl _), List.take_length]
    exact h h' tk' t' fun b o e => hm.heap b o (fun hb => absurd (Heap.lt_size e) ((List.mem_singleton.mp hb) ▸ Nat.lt_irrefl _)) (Heap.get?_push_of_some _ e)
end
end
end Z
namespace Z
open PySem PySem.Spec PyProof.Rows
open L2 (V Hp HO Key VK XK TE TT TA TS TG TGs TO TI WX Cx Inv Ends SqL SqT Same upd upd_same upd_ne ne_of ne_of_none OpR UnR CallR R2 Dp DpAll IxR SlR PE PT PW PA PS PSs PG PGs PI PO PTs PK FnOk Room Vals RelV Sp EP thn MtR)
open L2 (Takes XE BlkOk)
section
variable {X : Cx} {NM : Nm} {TB : Hp → Prop} {W : WX} {P : Prog} {Φ Ψ : Fun} {a b c e : Expr} {ia ib ic : IE} {p pos p' apos : Pos}
def b2n (b : Bool) : Int := if b then 1 else 0
theorem vals_bls : ∀ {its : List Value} {bs : List Bool}, Vals (bs.map V.bl) its → Cnts its (bs.map b2n)
  | _, [], .nil => .nil
  | _, b :: bs, .cons h r => .cons (.inr ⟨b, by cases h; rfl, rfl⟩) (vals_bls r)
theorem bi_sum (hc : X.calm = true) : CallR X (.builtin "sum") (rBi X.K NM TB (biD .sum)) := by
  intro pins s σ H xs us Q I r h
  obtain ⟨v, x, G, st, z, rfl, hx, hr, hg, g⟩ := h
  cases x with
  | lst ds =>
    obtain ⟨a, ws, rfl, h1, h2⟩ := hx
    have hg : (isInts ds).map (fun ns => Dat.int ns.sum) = some z := hg
    cases hb : isInts ds with
    | none => rw [hb] at hg; cases hg
    | some bs =>
      rw [hb] at hg
      cases hg
      obtain ⟨e1, e2⟩ := h2.of_ints hb
      subst e1
      exact L2.cr_sum hc pins s σ H _ us Q I r ⟨a, bs, rfl, SqL.of h1, g.data hr (.int _)⟩
  | tup ds =>
    obtain ⟨a, ws, rfl, h1, h2⟩ := rw_tup hx
    have hg : (isBls ds).map (fun bs => Dat.int (bs.map b2n).sum) = some z := hg
    cases hb : isBls ds with
    | none => rw [hb] at hg; cases hg
    | some bs =>
      rw [hb] at hg
      cases hg
      obtain ⟨e1, e2⟩ := h2.of_bls hb
      subst e1
      obtain ⟨its, rv, p, hz⟩ := I.tuple (SqT_mono hr.sub h1)
      rw [Vals.ref1 r]
      exact call_sum_tup (I.ok.hd hc) p (vals_bls rv) fun h' tk t' hk => ⟨.int _, H, I.kept hk, ⟨_, rfl⟩, g.data hr (.int _)⟩
  | _ => cases hg
end
end Z

set_option linter.all false
set_option maxRecDepth 100000
set_option maxHeartbeats 2000000
namespace Z
section
open PySem PySem.Calls PyProof.Rows PySem.W
variable {prog : Program} {w : World} {A : Around} {E : Value → Shared → Prop} {s : Shared}
/-- collect of a tuple -/
theorem collect_tup {l : Addr} {vs : List Value} {Q : List Value → Shared → Prop} (hl : s.heap.IsTuple l vs.toArray)
    (h : Q vs { s with heap := (s.heap.push (seqObj "list" #[] 0)).update s.heap.objs.size (Obj.mapSeq (· ++ vs.toArray)) }) (hsz : vs.length ≤ sizeLine) :
    wpAny (model prog w) A (collect (.ref l)) Q E s := by
  obtain ⟨o, ho, hc, n, hd⟩ := id hl
  unfold collect
  refine wpAny_bind (wpAny_runValue (codeAny_builtin PyProof.Rows.entry_proto_collect' ?_))
  show wpAny _ _ (do again (.builtin "list.__iadd__" ⟨[← newList [], .ref l], []⟩)) _ _ s
  refine wpAny_bind (wpAny_newList (wpAny_pure ⟨Code.quiet_builtin _ (by decide +kernel), codeAny_builtin PyProof.Rows.entry_list_iadd' ?_⟩))
  show wpAny _ _ (Builtin.List.listExtendWith (.ref s.heap.objs.size) (.ref l) (.ref s.heap.objs.size)) _ _ { s with heap := s.heap.push (seqObj "list" #[] 0) }
  unfold Builtin.List.listExtendWith
  have ho' : (s.heap.push (seqObj "list" #[] 0)).get? l = some o := Heap.get?_push_of_some _ ho
  refine wpAny_bind (wpAny_typeOf (T := "tuple") ⟨o, ho', hc⟩ ?_)
  have ht : (Value.type "tuple" == Value.type "tuple") = true := by rfl
  rw [if_pos (by rw [ht]; simp)]
  refine wpAny_bind (listItems_at ho' hd ?_)
  refine wpAny_bind (listItems_at (xs := #[]) (n := 0) (Heap.get?_push_size _ rfl) rfl ?_)
  rw [if_neg (by simp)]
  refine wpAny_bind (listUpdate_at (xs := #[]) (n := 0) (Heap.get?_push_size _ rfl) rfl ?_ (Nat.zero_le _) (by show (#[] ++ vs.toArray).size ≤ sizeLine + 1; simp only [Array.size_append, List.size_toArray, List.length_nil]; omega))
  refine wpAny_pure ?_
  show wpAny (model prog w) A (do
      let o ← load s.heap.objs.size
      match o.data with
      | .seq xs _ => pure xs.toList
      | _ => unsupported "internal:collect") Q E { s with heap := (s.heap.push (seqObj "list" #[] 0)).update s.heap.objs.size (Obj.mapSeq (· ++ vs.toArray)) }
  refine wpAny_bind (wpAny_load (get?_update_seq (Heap.get?_push_size _ rfl) _) ?_)
  show wpAny _ _ (pure ((#[] : Array Value) ++ vs.toArray).toList) Q E _
  rw [show ((#[] : Array Value) ++ vs.toArray).toList = vs by simp]
  exact wpAny_pure h
theorem bound_mapZ {β : Type} {enc : β → PyData} {bs : List β} (hu : ∀ b, b ∈ bs → A.units + 2 + (enc b).depth < cLine) : ∀ d, d ∈ bs.map enc → A.in1.in1.units + d.depth < cLine := by
  intro d hd
  obtain ⟨b, hb, rfl⟩ := List.mem_map.mp hd
  exact hu b hb
/-- sorted of a tuple -/
theorem sorted_tupT {β : Type} {R : Value → β → Prop} {enc : β → PyData} {vs : List Value} {bs : List β} {l : Addr} {Q : Value → Shared → Prop} (hl : s.heap.IsTuple l vs.toArray) (e : EachIs R vs bs) (er : EachIs (fun v b => ∃ as, Reads s.heap v (enc b) as) vs bs) (hal : AllAlike (bs.map enc)) (hk : Sortable (bs.map enc)) (hL : bs.length ≤ sizeLine)
    (hu : ∀ b, b ∈ bs → A.units + 2 + (enc b).depth < cLine) (h : ∀ out, out.length = bs.length → EachIs R out (bs.mergeSort (dataLe false enc)) → Q (.ref (s.heap.objs.size + 1)) { s with heap := sortedAll s.heap vs (List.toArray out) }) :
    wpAny (model prog w) A (call (.builtin "sorted") [.ref l]) Q E s := by
  have er' : EachIs (fun v b => ∃ as, Reads (sortingHeap (copyHeap s.heap vs) (s.heap.objs.size + 1) vs) v (enc b) as) vs bs := er.mono fun _ _ ⟨as, r⟩ => ⟨as, PyProof.Rows.Reads.keeps (fun _ _ => sorting_copy_old) r⟩
  have hLv : vs.length ≤ sizeLine := by rw [e.length]; exact hL
  refine call_function_entry_kw kind_sorted plain_sorted entry_sorted (args_sorted1 _) ?_
  unfold Builtin.«sorted»
  refine wpAny_bind (m := checkCount "sorted" 1 1 _) (wpAny_pure ?_)
  refine wpAny_bind (collect_tup hl ?_ hLv)
  refine wpAny_bind (wpAny_newList ?_ hLv)
  have hsz : ((s.heap.push (seqObj "list" #[] 0)).update s.heap.objs.size (Obj.mapSeq (· ++ vs.toArray))).objs.size = s.heap.objs.size + 1 := by
    rw [Heap.size_update, size_push']
  show wpAny _ _ _ _ _ { s with heap := copyHeap s.heap vs }
  rw [hsz]
  have S := SortsAt.data (prog := prog) (w := w) (A := A.in1.in1) (s := { s with heap := sortingHeap (copyHeap s.heap vs) (s.heap.objs.size + 1) vs }) (each_map (R := fun v d => ∃ as, Reads (sortingHeap (copyHeap s.heap vs) (s.heap.objs.size + 1) vs) v d as) enc er') hal hk (bound_mapZ hu)
  refine wpAny_bind (wpAny_holding (wpAny_call_entry_kw slot_list_sort ⟨_, copyHeap_at s.heap vs, rfl⟩ entry_list_sort ?body (args_list_sort _)))
  case body =>
    show wpAny (model prog w) A.in1.in1 (Builtin.«list.sort» ⟨[.ref (s.heap.objs.size + 1)], []⟩) _ _ _
    refine list_sort_vals (s := { s with heap := copyHeap s.heap vs }) (copyHeap_at s.heap vs) S hLv ?_
    exact ⟨_, rfl, wpAny_pure ⟨_, rfl, h _ (by rw [sortVals_length false rfl]; exact e.length) (sortVals_data false e er' hal)⟩⟩
end
open PySem PySem.Spec PyProof.Rows
open L2 (V Hp HO Key VK XK TE TT TA TS TG TGs TO TI WX Cx Inv Ends SqL SqT Same upd upd_same upd_ne ne_of ne_of_none OpR UnR CallR R2 Dp DpAll IxR SlR PE PT PW PA PS PSs PG PGs PI PO PTs PK FnOk Room Vals RelV Sp EP thn MtR)
open L2 (Takes XE BlkOk)
open PySem.W (EachIs AllAlike Sortable)
section
variable {X : Cx} {NM : Nm} {TB : Hp → Prop} {W : WX} {P : Prog} {Φ Ψ : Fun} {a b c e : Expr} {ia ib ic : IE} {p pos p' apos : Pos}
/-- u stands for d -/
def RUD (K : PySem.W.Frag) (NM : Nm) (F : Hp) (u : Value) (d : Dat) : Prop := ∃ v, RelV v u ∧ RepV K NM F v d
theorem each_rud {K : PySem.W.Frag} {F : Hp} : ∀ {vs : List V} {us : List Value} {ds : List Dat}, Vals vs us → RepVs K NM F vs ds → EachIs (RUD K NM F) us ds
  | _, _, _, .nil, .nil => .nil
  | _, _, _, .cons h r, .cons h2 r2 => .cons ⟨_, h, h2⟩ (each_rud r r2)
theorem each_back {K : PySem.W.Frag} {F : Hp} : ∀ {us : List Value} {ds : List Dat}, EachIs (RUD K NM F) us ds → ∃ vs, Vals vs us ∧ RepVs K NM F vs ds
  | _, _, .nil => ⟨[], .nil, .nil⟩
  | _, _, .cons ⟨v, h, h2⟩ t => by
    obtain ⟨vs, q1, q2⟩ := each_back t
    exact ⟨v :: vs, .cons h q1, .cons h2 q2⟩
theorem encD_some {d : Dat} (h : (toPy d).isSome = true) : toPy d = some (encD d) := by
  cases e : toPy d with
  | none => rw [e] at h; cases h
  | some q => unfold encD; rw [e]; rfl
theorem okP_alike {ps : List PyData} (h : okP ps = true) : AllAlike ps := fun d hd d' hd' => by
  unfold okP at h
  rw [Bool.and_eq_true, Bool.and_eq_true, List.all_eq_true] at h
  have := h.1.1 d hd
  rw [List.all_eq_true] at this
  exact this d' hd'
theorem okP_sortable {ps : List PyData} (h : okP ps = true) : Sortable ps := by
  unfold okP at h
  rw [Bool.and_eq_true, Bool.and_eq_true, Bool.or_eq_true, List.all_eq_true (p := isT1), List.all_eq_true (p := isN0)] at h
  rcases h.1.2 with h | h
  · refine .inl fun d hd => ?_
    have := h d hd
    match d, this with
    | .tuple (x :: r), _ => exact ⟨x, r, rfl⟩
  · refine .inr fun d hd => ?_
    have := h d hd
    refine ⟨fun e => ?_, fun xs e => ?_⟩
    · subst e; cases this
    · subst e; cases this
theorem okP_depth {ps : List PyData} (h : okP ps = true) {d : PyData} (hd : d ∈ ps) : d.depth ≤ 8 := by
  unfold okP at h
  rw [Bool.and_eq_true] at h
  exact of_decide_eq_true (List.all_eq_true.mp h.2 d hd)
theorem each_reads {s : Shared} {pins : List (Addr × Obj)} {σ : L2.St} {H F : Hp} (I : Inv X pins σ H s) (hF : ∀ a o, F a = some o → H a = some o) : ∀ {vs : List V} {us : List Value} {ds : List Dat}, Vals vs us → RepVs X.K NM F vs ds → (ds.all fun x => (toPy x).isSome) = true → EachIs (fun v b => ∃ as, Reads s.heap v (encD b) as) us ds
  | _, _, _, .nil, .nil, _ => .nil
  | _, _, _, .cons h r, .cons h2 r2, ho => by
    rw [List.all_cons, Bool.and_eq_true] at ho
    exact .cons (L2.Dp.reads I _ _ _ (h2.dp hF (encD_some ho.1)) h) (each_reads I hF r r2 ho.2)
theorem sorted_list (tp : TbP TB) (hu : X.A.units + 64 < cLine) {ds : List Dat} {pins : List (Addr × Obj)} {s : Shared} {σ : L2.St} {H : Hp} {G : Gw} {st : St} {l : Addr} {ws : List V} {Q : VK} {E : Value → Shared → Prop}
    (I : Inv X pins σ H s) (h1 : SqL X.K H l ws) (h2 : RepVs X.K NM G.F ws ds) (hr : Rp X.K NM TB G H st) (ho : okSort ds = true) (g : Give X.K NM TB G st (.fl (sortD ds)) Q) :
    wpAny (model X.prog X.w) X.A (call (.builtin "sorted") [.ref l]) (EP X pins σ Q) E s := by
  unfold okSort at ho
  rw [Bool.and_eq_true] at ho
  obtain ⟨its, rv, hl, hz⟩ := I.list h1
  have hlen : ds.length ≤ sizeLine := by rw [← h2.length]; exact hz
  refine PySem.W.sorted_data (R := RUD X.K NM G.F) (enc := encD) (bs := ds) hl.isList (each_rud rv h2) (each_reads I hr.sub rv h2 ho.1) (okP_alike ho.2) (okP_sortable ho.2) hlen (fun d hd => ?_) fun out hlo ho2 => ?_
  · have := okP_depth ho.2 (List.mem_map.mpr ⟨d, hd, rfl⟩)
    omega
  · obtain ⟨vs, q1, q2⟩ := each_back ho2
    obtain ⟨ep, he'⟩ := PyProof.Rows.sortedAll_at s.heap its out.toArray
    have hlv : vs.length ≤ sizeLine := by rw [q1.length, hlo]; exact hlen
    exact ⟨.ref _, upd H (s.heap.objs.size + 1) (.lst vs), I.laid (t' := s.toks) (fun _ _ => PyProof.Rows.sortedAll_old) (Nat.le_succ _) ⟨hlv, out, ep, q1, he'⟩, rfl, g.newLst tp hr q2 (I.hok.fresh (Nat.le_succ _))⟩
theorem sorted_tuple (tp : TbP TB) (hu : X.A.units + 64 < cLine) {ds : List Dat} {pins : List (Addr × Obj)} {s : Shared} {σ : L2.St} {H : Hp} {G : Gw} {st : St} {l : Addr} {ws : List V} {Q : VK} {E : Value → Shared → Prop}
    (I : Inv X pins σ H s) (h1 : SqT X.K H l ws) (h2 : RepVs X.K NM G.F ws ds) (hr : Rp X.K NM TB G H st) (ho : okSort ds = true) (g : Give X.K NM TB G st (.fl (sortD ds)) Q) :
    wpAny (model X.prog X.w) X.A (call (.builtin "sorted") [.ref l]) (EP X pins σ Q) E s := by
  unfold okSort at ho
  rw [Bool.and_eq_true] at ho
  obtain ⟨its, rv, hl, hz⟩ := I.tuple h1
  have hlen : ds.length ≤ sizeLine := by rw [← h2.length]; exact hz
  refine sorted_tupT (R := RUD X.K NM G.F) (enc := encD) (bs := ds) hl (each_rud rv h2) (each_reads I hr.sub rv h2 ho.1) (okP_alike ho.2) (okP_sortable ho.2) hlen (fun d hd => ?_) fun out hlo ho2 => ?_
  · have := okP_depth ho.2 (List.mem_map.mpr ⟨d, hd, rfl⟩)
    omega
  · obtain ⟨vs, q1, q2⟩ := each_back ho2
    obtain ⟨ep, he'⟩ := PyProof.Rows.sortedAll_at s.heap its out.toArray
    have hlv : vs.length ≤ sizeLine := by rw [q1.length, hlo]; exact hlen
    exact ⟨.ref _, upd H (s.heap.objs.size + 1) (.lst vs), I.laid (t' := s.toks) (fun _ _ => PyProof.Rows.sortedAll_old) (Nat.le_succ _) ⟨hlv, out, ep, q1, he'⟩, rfl, g.newLst tp hr q2 (I.hok.fresh (Nat.le_succ _))⟩
theorem bi_sorted (tp : TbP TB) (hu : X.A.units + 64 < cLine) : CallR X (.builtin "sorted") (rBi X.K NM TB (biD .sorted)) := by
  intro pins s σ H xs us Q I r h
  obtain ⟨v, x, G, st, z, rfl, hx, hr, hg, g⟩ := h
  cases x with
  | lst ds =>
    obtain ⟨a, ws, rfl, h1, h2⟩ := hx
    have hg : (if okSort ds = true then some (Dat.fl (sortD ds)) else none) = some z := hg
    by_cases ho : okSort ds = true
    · rw [if_pos ho] at hg
      cases hg
      rw [Vals.ref1 r]
      exact sorted_list tp hu I (SqL.of h1) h2 hr ho g
    · rw [if_neg ho] at hg; cases hg
  | tup ds =>
    obtain ⟨a, ws, rfl, h1, h2⟩ := rw_tup hx
    have hg : (if okSort ds = true then some (Dat.fl (sortD ds)) else none) = some z := hg
    by_cases ho : okSort ds = true
    · rw [if_pos ho] at hg
      cases hg
      rw [Vals.ref1 r]
      exact sorted_tuple tp hu I (SqT_mono hr.sub h1) h2 hr ho g
    · rw [if_neg ho] at hg; cases hg
  | _ => cases hg
end
end Z

set_option linter.all false
set_option maxRecDepth 100000
set_option maxHeartbeats 2000000
namespace Z
open PySem PySem.Spec PyProof.Rows
open L2 (V Hp HO Key VK XK TE TT TA TS TG TGs TO TI WX Cx Inv Ends SqL SqT Same upd upd_same upd_ne ne_of ne_of_none OpR UnR CallR R2 Dp DpAll IxR SlR PE PT PW PA PS PSs PG PGs PI PO PTs PK FnOk Room Vals RelV Sp EP thn MtR FpOk ObjOk pinsAt mem_pinsAt of_pinsAt)
open L2 (Takes XE BlkOk)
open PySem.W (EachIs AllAlike Sortable)
section
variable {X : Cx} {pins : List (Addr × Obj)} {σ : L2.St} {H : Hp} {s : Shared} {h' : Heap}
/-- some own things turn, one of them comes to light -/
theorem inv_adopt {t' : Nat} {ch : List Addr} {T : Addr} {ob : HO} (I : Inv X pins σ H s) (k : ∀ b o, b ∉ ch → s.heap.get? b = some o → h'.get? b = some o) (hf : ∀ b ∈ ch, FpOk X pins H b) (hT : T ∈ ch)
    (new : ObjOk X.prog X.w (upd H T ob) h' T ob) : Inv X pins σ (upd H T ob) { s with heap := h', toks := t' } := by
  have hn : H T = none := (hf T hT).1
  have nit : ∀ b u, H b = some u → b ∉ ch := fun b u e z => by
    have q := (hf b z).1
    rw [q] at e; cases e
  refine I.step (g' := s.gens) (d' := s.drawn) (ch := ch) (fun b hb => ⟨(hf b hb).2.2.2.1, (hf b hb).2.1, (hf b hb).2.2.2.2.1, (hf b hb).2.2.2.2.2⟩) (fun b o _ _ hc e _ => k b o hc e) (fun b o _ _ hc e _ => ⟨o.slots, k b o hc e⟩)
    (fun b o hc e n => ?_) (fun b o hc e => ⟨o, k b o hc e⟩) (fun b xs e => ?_) (fun b o u e => ?_) (fun b ps e => ⟨#[], ?_⟩) (fun m hm => ?_) (fun b u e => ?_) I.bare
  · rw [upd_ne (fun z => hc (by rw [z]; exact hT))]; exact n
  · rw [upd_ne (ne_of_none e hn)]; exact e
  · rw [upd_ne (ne_of_none e hn)]; exact e
  · rw [upd_ne (ne_of_none e hn), e]; simp
  · obtain ⟨o, es, ep, ho, r⟩ := hm
    exact ⟨o, es, ep, k _ o (fun z => (hf _ z).2.1 rfl) ho, r⟩
  · by_cases hb : b = T
    · subst hb
      rw [upd_same] at e
      cases e
      exact new
    · rw [upd_ne hb] at e
      refine (I.hok b u e).stay (fun c v hc q => k c v ?_ q) (fun c q => by rw [upd_ne (ne_of_none q hn)]; exact q) fun c xs q => by rw [upd_ne (ne_of_none q hn)]; exact q
      rcases hc with z | z
      · rw [z]; exact nit b u e
      · exact nit c _ z
end
section
variable {X : Cx} {NM : Nm} {TB : Hp → Prop} {W : WX} {P : Prog} {Φ Ψ : Fun} {a b c e : Expr} {ia ib ic : IE} {p pos p' apos : Pos}
/-- a settled thing that reads as data -/
theorem repR_data {K : PySem.W.Frag} {G : Gw} {n : Nat} {v : V} {d : Dat} (x : RepR K NM G n v d) (h : (toPy d).isSome = true) : RepV K NM G.F v d := by
  cases d <;> first | exact x | cases h
/-- one key -/
theorem key_call {k f : Nat} {fa : Addr} {fd : FuncData} {ps : List Str} (F : FnAt X k fa fd ps (spD X.K NM TB ps.length (Φ f))) (h1 : ps.length = 1) {A : Around} (hr : Room k A) {pins : List (Addr × Obj)} {σ : L2.St} {H : Hp} {s : Shared} {G : Gw} {st stE : St} {v : V} {u : Value} {d y : Dat} {E : Value → Shared → Prop}
    (I : Inv X pins σ H s) (hA : L2.Env0 X.prog X.w X.K X.mg X.base A X.stack s H) (r : RelV v u) (x : RepV X.K NM G.F v d) (hR : Rp X.K NM TB G H st) (hw : Φ f [d] st = .ok y stE) :
    wpAny (model X.prog X.w) A (call (.ref fa) [u]) (EP X pins σ fun v' H' => ∃ G', Ext G st G' stE ∧ Rp X.K NM TB G' H' stE ∧ RepR X.K NM G' stE.length v' y) E s := by
  have b := bind_plain (us := [u]) (ws := []) F.plain F.nd F.dv (ks := []) (by rw [List.length_singleton, ← h1, List.drop_length]) rfl (by rw [h1]; exact Nat.le_refl _)
  have sp : spD X.K NM TB ps.length (Φ f) [v] H (fun v' H' => ∃ G', Ext G st G' stE ∧ Rp X.K NM TB G' H' stE ∧ RepR X.K NM G' stE.length v' y) fun _ _ _ => False := by
    refine ⟨[d], st, G, by rw [h1]; rfl, .cons (x.toR _) .nil, hR, ?_⟩
    rw [hw]
    exact fun v' H' G' e r' a' => ⟨G', e, r', a'⟩
  refine wpAny_call (codeAny_mono (F.ok.run A X.stack s H ⟨[u], []⟩ [u] [v] _ _ hr hA (.of_eq b) (.cons r .nil) sp) fun r s' hq => ?_)
  cases r with
  | error e =>
    obtain ⟨a, B, H', cls, d, rfl, fl, hok, ub, na, os, ag, hE⟩ := hq
    exact hE.elim
  | ok fl =>
    cases fl with
    | ret u => exact I.after hq
    | next => exact False.elim hq
    | brk => exact False.elim hq
    | cont => exact False.elim hq
theorem loop_step {f : Dat → St → Res (Option Dat)} {x : Dat} {r : List Dat} {st stE : St} {zs : List Dat} (h : loopC f (x :: r) st = .ok zs stE) : ∃ o s1 ys, f x st = .ok o s1 ∧ loopC f r s1 = .ok ys stE ∧ zs = o.toList ++ ys := by
  obtain ⟨o, s1, h1, h2⟩ := Res.bnd_ok_inv (show (f x st).bnd (fun o s => (loopC f r s).bnd fun ys s => .ok (o.toList ++ ys) s) = .ok zs stE from h)
  obtain ⟨ys, s2, h3, h4⟩ := Res.bnd_ok_inv h2
  cases h4
  exact ⟨o, s1, ys, h1, h3, rfl⟩
theorem each_get {α β : Type} {R : α → β → Prop} : ∀ {as : List α} {bs : List β} {i : Nat} {x : α}, EachIs R as bs → as[i]? = some x → ∃ y, bs[i]? = some y ∧ R x y
  | _, _, 0, _, .cons h _, e => ⟨_, rfl, by cases e; exact h⟩
  | _, _, i + 1, _, .cons _ t, e => by
    obtain ⟨y, h1, h2⟩ := each_get t (i := i) (by simpa using e)
    exact ⟨y, by simpa using h1, h2⟩
theorem each_right {α β γ : Type} {R : α → β → Prop} : ∀ {as : List α} {bs : List β} {ks : List γ}, EachIs R as bs → ks.length = bs.length → EachIs (fun u (q : γ × β) => R u q.2) as (ks.zip bs)
  | _, _, [], .nil, _ => .nil
  | _, _, k :: ks, .cons h t, e => .cons h (each_right t (by simpa using e))
theorem each_mapZ {α β γ : Type} {R : α → γ → Prop} (g : β → γ) : ∀ {as : List α} {bs : List β}, EachIs (fun u b => R u (g b)) as bs → EachIs R as (bs.map g)
  | _, _, .nil => .nil
  | _, _, .cons h t => .cons h (each_mapZ g t)
theorem map_zip1 {α β γ : Type} (g : α → γ) : ∀ {ks : List α} {bs : List β}, ks.length = bs.length → (ks.zip bs).map (fun q => g q.1) = ks.map g
  | [], [], _ => rfl
  | k :: ks, b :: bs, e => by
    rw [List.zip_cons_cons, List.map_cons, List.map_cons, map_zip1 g (by simpa using e)]
theorem keyLoop_one {f : List Dat → St → Res Dat} {d : Dat} {st s1 : St} {o : Option Dat} (h : ((f [d] st).bnd fun k s => (.ok (some k) s : Res (Option Dat))) = .ok o s1) : ∃ y, f [d] st = .ok y s1 ∧ o = some y := by
  obtain ⟨y, s2, h1, h2⟩ := Res.bnd_ok_inv h
  cases h2
  exact ⟨y, h1, rfl⟩
open PySem.W in
/-- the keys, one by one, then the sorting -/
theorem keyZ_rest {k f : Nat} {fa : Addr} {fd : FuncData} {ps : List Str} (F : FnAt X k fa fd ps (spD X.K NM TB ps.length (Φ f))) (h1 : ps.length = 1) {A : Around} (hr : Room k A) {pins : List (Addr × Obj)} {σ : L2.St} {H : Hp} {s : Shared} {G : Gw} {st stE : St} {kS l e1 : Nat}
    {vs : List Value} {ds ks : List Dat} {P : PySem.Fin → Shared → Prop} {E : Value → Shared → Prop}
    (hA : ∀ (s' : Shared) (H' : Hp), Inv X pins σ H' s' → L2.Env0 X.prog X.w X.K X.mg X.base A X.stack s' H') (I : Inv X pins σ H s) (fk : FpOk X pins H kS) (fl : FpOk X pins H l) (nk : s.heap.get? kS = some (seqObj "list" #[] 0)) (na : s.heap.get? l = some (seqObj "list" #[] e1)) (hka : kS ≠ l)
    (hv : EachIs (RUD X.K NM G.F) vs ds) (hR : Rp X.K NM TB G H st) (hZ : vs.length ≤ sizeLine) (hal : okSort ks = true) (hu : A.units + 8 < cLine)
    (el : loopC (fun x s => (Φ f [x] s).bnd fun k s => .ok (some k) s) ds st = .ok ks stE)
    (h : ∀ (s' : Shared) (H' : Hp) (G' : Gw) (ws : List V), Inv X pins σ (upd H' l (.lst ws)) s' → H' l = none → Ext G st G' stE → Rp X.K NM TB G' H' stE → RepVs X.K NM G'.F ws (sortZ (ks.zip ds)) → P (.done (.ret .none)) s') :
    wpAny (model X.prog X.w) A (ksk_rest l (.ref fa) false vs.toArray e1 (.ref kS)) P E s := by
  unfold okSort at hal
  rw [Bool.and_eq_true] at hal
  have hsome : ∀ y ∈ ks, (toPy y).isSome = true := fun y hy => List.all_eq_true.mp hal.1 y hy
  unfold ksk_rest
  refine wpAny_bind (wpAny_rule ?_)
  first
    | rw [List.forIn_toArray]
    | (rw [← Array.forIn_toList]; simp only [List.toList_toArray])
    | rw [← Array.forIn_toList]
  refine wpAny_bind (ksk_fold (fun i s' => ∃ (H' : Hp) (G' : Gw) (st' : St) (kA : Array Value) (e : Nat) (ys zs : List Dat), Inv X pins σ H' s' ∧ FpOk X pins H' kS ∧ FpOk X pins H' l ∧ s'.heap.get? kS = some (seqObj "list" kA e) ∧ s'.heap.get? l = some (seqObj "list" #[] e1) ∧
      Ext G st G' st' ∧ Rp X.K NM TB G' H' st' ∧ EachIs (RUD X.K NM G'.F) kA.toList ys ∧ loopC (fun x s => (Φ f [x] s).bnd fun k s => .ok (some k) s) (ds.drop i) st' = .ok zs stE ∧ ks = ys ++ zs ∧ ys.length = i) vs 0 s
    ⟨H, G, st, #[], 0, [], ks, I, fk, fl, nk, na, .refl, hR, .nil, el, rfl, rfl⟩ ?step ?done)
  case step =>
    rintro j x s' hx ⟨H', G', st', kA, e, ys, zs, I', fk', fl', nk', na', ex, r', hk, el', hks, hlen⟩
    simp only [Nat.zero_add] at el' hlen ⊢
    obtain ⟨d, hd, v, rv, xv⟩ := each_get hv hx
    have hj : j < vs.length := (List.getElem?_eq_some_iff.mp hx).1
    rw [drop_cons hd] at el'
    obtain ⟨o, s1, zs', hc, el2, hzs⟩ := loop_step el'
    obtain ⟨y, hy, rfl⟩ := keyLoop_one hc
    have hyk : y ∈ ks := by rw [hks, hzs]; simp
    have ho : ∀ b ∈ [kS, l], ∃ o, s'.heap.get? b = some o ∧ ∀ v, o.data ≠ .cell v := fun b hb => by
      have e' : b = kS ∨ b = l := by simpa using hb
      rcases e' with z | z
      · rw [z]; exact ⟨_, nk', fun v q => nomatch q⟩
      · rw [z]; exact ⟨_, na', fun v q => nomatch q⟩
    have Ip := I'.pinned (fp := [kS, l]) (fun b hb => by
      have e' : b = kS ∨ b = l := by simpa using hb
      rcases e' with z | z
      · rw [z]; exact fk'
      · rw [z]; exact fl') ho
    refine wpAny_bind (wpAny_attempt (wpAny_mono (key_call (E := fun _ _ => False) F h1 hr Ip (hA _ _ I') rv (xv.mono ex.sub) r' hy) (fun u s'' he => ?_) fun _ _ hF => hF.elim))
    obtain ⟨v2, H2, I2, rv2, G2, ex2, r2, x2⟩ := he
    have p1 := I2.pin (kS, seqObj "list" kA e) (List.mem_append_right _ (List.mem_append_right _ (mem_pinsAt (by simp) nk')))
    have p2 := I2.pin (l, seqObj "list" #[] e1) (List.mem_append_right _ (List.mem_append_right _ (mem_pinsAt (by simp) na')))
    have I3 := I2.unpinned
    have fk2 : FpOk X pins H2 kS := ⟨p1.2.1, fk'.2⟩
    have fl2 : FpOk X pins H2 l := ⟨p2.2.1, fl'.2⟩
    have nk2 : s''.heap.get? kS = some (seqObj "list" kA e) := p1.1
    have na2 : s''.heap.get? l = some (seqObj "list" #[] e1) := p2.1
    try dsimp only
    have hz : kA.size ≤ vs.length := by
      have q := hk.length
      rw [Array.length_toList, hlen] at q
      omega
    have sb := Heap.SameBut.update s''.heap kS (Obj.mapSeq (·.push u))
    obtain ⟨c2, hc2⟩ : ∃ c2, (s''.heap.update kS (Obj.mapSeq (·.push u))).get? kS = some (seqObj "list" (kA.push u) c2) := ⟨_, get?_update_seq nk2 (·.push u)⟩
    have I4 := I3.turnedL (t' := s''.toks) (ch := [kS]) (h' := s''.heap.update kS (Obj.mapSeq (·.push u))) (fun b o hb q => (sb.2 b (fun z => hb (by simp [z]))).trans q) fun b hb => by
      have e' : b = kS := by simpa using hb
      rw [e']; exact fk2
    refine wpAny_bind (listUpdate_at nk2 rfl ?_ (Nat.le_trans hz hZ) (Nat.le_trans (Nat.le_of_eq (Array.size_push ..)) (Nat.succ_le_succ (Nat.le_trans hz hZ))))
    have ea : (kA.push u).toList = kA.toList ++ [u] := by simp
    refine wpAny_pure ⟨rfl, H2, G2, s1, kA.push u, c2, ys ++ [y], zs', I4, fk2, fl2, hc2, (sb.2 l hka.symm).trans na2, ex.trans ex2, r2, ?_, el2, by rw [hks, hzs]; simp, by rw [List.length_append, hlen]; rfl⟩
    rw [ea]
    exact each_snoc ⟨v2, rv2, repR_data x2 (hsome y hyk)⟩ (hk.mono fun u d ⟨v, q1, q2⟩ => ⟨v, q1, q2.mono ex2.sub⟩)
  case done =>
    rintro s' ⟨H', G', st', kA, e, ys, zs, I', fk', fl', nk', na', ex, r', hk, el', hks, hlen⟩
    simp only [Nat.zero_add] at el' hlen
    rw [List.drop_of_length_le (by rw [hv.length]; exact Nat.le_refl _)] at el'
    cases el'
    rw [List.append_nil] at hks
    subst hks
    have hkl : ks.length = ds.length := by rw [hlen, hv.length]
    obtain ⟨kv, q1, q2⟩ := each_back hk
    have hread : EachIs (fun v k => ∃ as, Reads s'.heap v k as) kA.toList (ks.map encD) := each_map (R := fun v d => ∃ as, Reads s'.heap v d as) encD (each_reads I' r'.sub q1 q2 hal.1)
    have hsz : kA.size = vs.length := by
      have q := hk.length
      rw [Array.length_toList, hlen] at q
      exact q
    obtain ⟨h₁, g1, g2⟩ := L2.restrict s'.heap fun b => decide (b ≠ kS)
    try dsimp only
    refine wpAny_bind (listItems_at nk' rfl ?_)
    refine keyH_end (κ := dataKind s'.heap (ks.map encD)) (h₁ := h₁) (fun b o hb q => ?_) (g2 kS (by simp)) nk' na' hka (SortsAt.data (s := s') hread (okP_alike hal.2) (okP_sortable hal.2) fun d hd => ?_) hsz hZ fun h3 tk3 c k3 n3 => ?_
    · by_cases z : b = kS
      · rw [z, g2 kS (by simp)] at q; cases q
      · rw [g1 b (by simpa using z)] at q; exact q
    · have := okP_depth hal.2 hd
      omega
    · have ko : KeyedOut false (ks.map encD) vs (sortVals (dataKind s'.heap (ks.map encD)) false kA.toList vs) := ⟨s'.heap, kA.toList, okP_alike hal.2, rfl, hread⟩
      rw [← map_zip1 encD hkl] at ko
      have out := keyedOut_each (fun q : Dat × Dat => encD q.1) ko (each_right (hv.mono fun u d ⟨v, q1, q2⟩ => ⟨v, q1, q2.mono ex.sub⟩ : EachIs (RUD X.K NM G'.F) vs ds) hkl)
      have out2 : EachIs (RUD X.K NM G'.F) (sortVals (dataKind s'.heap ((ks.zip ds).map fun q => encD q.1)) false kA.toList vs) (sortZ (ks.zip ds)) := each_mapZ (R := RUD X.K NM G'.F) (fun q : Dat × Dat => q.2) out
      rw [map_zip1 encD hkl] at out2
      obtain ⟨ws, w1, w2⟩ := each_back out2
      have hlv : ws.length ≤ sizeLine := by
        rw [w1.length, sortVals_length false (by rw [Array.length_toList]; exact hsz)]
        exact hZ
      refine h _ H' G' ws (inv_adopt (t' := tk3) (ch := [kS, l]) I' (fun b o hb q => ?_) (fun b hb => ?_) (by simp) ⟨hlv, _, c, w1, n3⟩) fl'.1 ex r' w2
      · refine k3 b o (fun z => hb (by simp [z])) ?_
        rw [g1 b (by simpa using fun z => hb (by simp [z]))]
        exact q
      · have e' : b = kS ∨ b = l := by simpa using hb
        rcases e' with z | z
        · rw [z]; exact fk'
        · rw [z]; exact fl'
end
end Z

set_option linter.all false
set_option maxRecDepth 100000
set_option maxHeartbeats 2000000
namespace Z
open PySem PySem.Spec PyProof.Rows
open L2 (V Hp HO Key VK XK TE TT TA TS TG TGs TO TI WX Cx Inv Ends SqL SqT Same upd upd_same upd_ne ne_of ne_of_none OpR UnR CallR R2 Dp DpAll IxR SlR PE PT PW PA PS PSs PG PGs PI PO PTs PK FnOk Room Vals RelV Sp EP thn MtR FpOk ObjOk)
open L2 (Takes XE BlkOk)
open PySem.W (EachIs AllAlike Sortable)
open PySem.W
section
variable {X : Cx} {NM : Nm} {TB : Hp → Prop} {W : WX} {P : Prog} {Φ Ψ : Fun} {a b c e : Expr} {ia ib ic : IE} {p pos p' apos : Pos}
theorem sortBy_call {k f : Nat} {fa : Addr} {fd : FuncData} {ps : List Str} (tp : TbP TB) (F : FnAt X k fa fd ps (spD X.K NM TB ps.length (Φ f))) (h1 : ps.length = 1) (hr : Room (k + 3) X.A) {pins : List (Addr × Obj)} {σ : L2.St} {H : Hp} {s : Shared} {G : Gw} {st stE : St} {l : Addr} {ws : List V} {ds ks : List Dat} {Q : VK} {E : Value → Shared → Prop}
    (I : Inv X pins σ H s) (hl : SqL X.K H l ws) (hv : RepVs X.K NM G.F ws ds) (hR : Rp X.K NM TB G H st) (hal : okSort ks = true)
    (el : loopC (fun x s => (Φ f [x] s).bnd fun k s => .ok (some k) s) ds st = .ok ks stE)
    (g : ∀ (H' : Hp) (G' : Gw) (ws : List V) (q : Addr), Ext G st G' stE → Rp X.K NM TB G' H' stE → RepVs X.K NM G'.F ws (sortZ (ks.zip ds)) → H' q = none → Q (.ref q) (upd H' q (.lst ws))) :
    wpAny (model X.prog X.w) X.A (call (.builtin "sorted") [.ref l] [(Str.ofString "key", .ref fa)]) (EP X pins σ Q) E s := by
  obtain ⟨its, rv, hp, hz⟩ := I.list hl
  have hz' : its.length ≤ sizeLine := by rw [← rv.length]; exact hz
  refine sorted_of_sort (vs := its) hp.isList hz' (ksk_s1 _ _) (fun x => ksk_l1 _ _) fun E' => ?_
  rw [ksk_t1]
  have ho := copyHeap_at s.heap its
  have ha : s.heap.objs.size + 1 < (copyHeap s.heap its).objs.size := Heap.lt_size ho
  obtain ⟨e1, ho1⟩ : ∃ e1, ((copyHeap s.heap its).update (s.heap.objs.size + 1) (Obj.mapSeq fun _ => (#[] : Array Value))).get? (s.heap.objs.size + 1) = some (seqObj "list" #[] e1) := ⟨_, get?_update_seq ho fun _ => #[]⟩
  have hkS : (((copyHeap s.heap its).update (s.heap.objs.size + 1) (Obj.mapSeq fun _ => (#[] : Array Value))).push (seqObj "tuple" its.toArray 0)).objs.size = (copyHeap s.heap its).objs.size + 1 := by rw [size_push', Heap.size_update]
  unfold ksk_tree
  refine wpAny_bind (listItems_at ho rfl ?_)
  refine wpAny_bind (listUpdate_at ho rfl ?_ (by rw [List.size_toArray]; exact hz') (Nat.zero_le _))
  refine wpAny_bind (seqEpoch_at ho1 rfl ?_)
  refine wpAny_bind (wpAny_newTuple ?_ (by show its.length ≤ _; exact hz'))
  refine wpAny_bind (wpAny_newList ?_ (Nat.zero_le _))
  refine wpAny_holding ?_
  have old : ∀ b o, s.heap.get? b = some o → ((((copyHeap s.heap its).update (s.heap.objs.size + 1) (Obj.mapSeq fun _ => (#[] : Array Value))).push (seqObj "tuple" its.toArray 0)).push (seqObj "list" #[] 0)).get? b = some o := fun b o q => by
    have hlt : b < s.heap.objs.size := Heap.lt_size q
    exact Heap.get?_push_of_some _ (Heap.get?_push_of_some _ ((Heap.get?_update_ne _ _ _ _ (Nat.ne_of_lt (Nat.lt_succ_of_lt hlt))).trans (copyHeap_old q)))
  have I1 := I.kept (h' := (((copyHeap s.heap its).update (s.heap.objs.size + 1) (Obj.mapSeq fun _ => (#[] : Array Value))).push (seqObj "tuple" its.toArray 0)).push (seqObj "list" #[] 0)) (t' := s.toks) old
  have hsz := hr.units
  refine keyZ_rest (Φ := Φ) (f := f) F h1 (A := X.A.in1.in1) ((hr.mono (by omega : k + 2 ≤ k + 3)).in1.in1) (vs := its) (ds := ds) (ks := ks) (stE := stE) (fun s' H' I' => I'.env0.in1.in1) I1
    (I.fpOk (by rw [hkS]; omega) (I.hok.fresh (by rw [hkS]; omega))) (I.fpOk (Nat.le_succ _) (I.hok.fresh (Nat.le_succ _)))
    (Heap.get?_push_size _ rfl) (Heap.get?_push_of_some _ (Heap.get?_push_of_some _ ho1)) (by rw [hkS]; omega) (each_rud rv hv) hR hz' hal (by show X.A.units + 2 + 8 < cLine; omega) el fun s' H' G' ws' I' hn ex r' rv' => ?_
  exact ⟨rfl, .ref _, _, I', rfl, g H' G' ws' _ ex r' rv' hn⟩
/-- what sorted with a key asks -/
def rSortBy (X : Cx) (NM : Nm) (TB : Hp → Prop) (Φ : Fun) (f : Nat) (fa : Addr) : List V → List V → Hp → VK → Prop := fun xs zs H Q => ∃ l ws ds ks G st stE, xs = [.ref l] ∧ zs = [.ref fa] ∧ SqL X.K H l ws ∧ RepVs X.K NM G.F ws ds ∧ Rp X.K NM TB G H st ∧ okSort ks = true ∧
  loopC (fun x s => (Φ f [x] s).bnd fun k s => .ok (some k) s) ds st = .ok ks stE ∧ ∀ (H' : Hp) (G' : Gw) (ws : List V) (q : Addr), Ext G st G' stE → Rp X.K NM TB G' H' stE → RepVs X.K NM G'.F ws (sortZ (ks.zip ds)) → H' q = none → Q (.ref q) (upd H' q (.lst ws))
theorem wp_calm {α : Type} {r : Res α} {K : α → St → Prop} {E E' : Nat → List (Nat × Dat) → St → Prop} (h : (r.calm).wp K E) : ∃ a s, r = .ok a s ∧ K a s := by
  cases r with
  | ok a s => exact ⟨a, s, rfl, h⟩
  | err c fs s => exact h.elim
  | stuck => exact h.elim
theorem de_sortBy {k f : Nat} {fx : Str} {fa : Addr} {fd : FuncData} {ps : List Str} {kp fp : Pos} (tp : TbP TB) (wk : WK W) (hc : X.calm = true) (hr : Room (k + 3) X.A) (tk : Takes X W) (hg : L2.Gl X "sorted") (hm : X.mg "sorted" = none) (hgf : L2.Gl X fx) (hmf : X.mg fx = some (.ref fa)) (hdf : (fx == ("__debug__" : Str)) = false)
    (F : FnAt X k fa fd ps (spD X.K NM TB ps.length (Φ f))) (h1 : ps.length = 1) (ha : DE X NM TB W P Φ Ψ a ia) (ns : isStar a = false) :
    DE X NM TB W P Φ Ψ (.Call (.Name "sorted" p) [a] [⟨some "key", .Name fx fp, kp⟩] pos) (.sortBy f ia) := by
  have hk : L2.CallRK X (.builtin "sorted") [Str.ofString "key"] (rSortBy X NM TB Φ f fa) := by
    intro pins s σ H xs zs us ws Q I r r2 ⟨l, vs, ds, ks, G, st, stE, e1, e2, hl, hv, hR, ho, el, g⟩
    subst e1; subst e2
    rw [Vals.ref1 r, Vals.ref1 r2]
    exact sortBy_call tp F h1 hr I hl hv hR ho el g
  refine PE.imp (L2.pe_callBK hk hg hm rfl (L2.pa_cons ha L2.pa_nil (star_cons ns)) (L2.pk_cons (L2.pe_glob (v := .ref fa) hgf hmf rfl hdf) L2.pk_nil) (by decide) (by decide) (by rw [star_cons ns]; rfl) (by rw [star_cons ns]; rfl) rfl rfl rfl) fun σ H Q ⟨δ, st, G, hE, hR, hw⟩ => ?_
  refine seqR .refl hE hR hw fun x st1 v H1 G1 e1 _ hE1 r1 x1 hw1 => ?_
  have x2 := r1.viewR x1
  cases hx : view st1 (raw x) with
  | lst ds =>
    rw [hx] at x2
    simp only [hx] at hw1
    obtain ⟨l, ws, rfl, h1', h2'⟩ := x2
    cases hl : loopC (fun x s => (Φ f [x] s).bnd fun k s => (.ok (some k) s : Res (Option Dat))) ds st1 with
    | stuck => rw [hl] at hw1; exact hw1.elim
    | err c fs s => rw [hl] at hw1; exact hw1.elim
    | ok ks stE =>
      rw [hl] at hw1
      have hw1 : (if okSort ks = true then (Res.ok (Dat.fl (sortZ (ks.zip ds))) stE : Res Dat) else .stuck).wp _ _ := hw1
      by_cases ho : okSort ks = true
      · rw [if_pos ho] at hw1
        exact ⟨l, ws, ds, ks, G1, st1, stE, rfl, rfl, SqL.of h1', h2', r1, ho, hl, fun H' G' ws' q ex r' rv hq => (KX.give (e1.trans ex) hw1).newLst tp r' rv hq⟩
      · rw [if_neg ho] at hw1; exact hw1.elim
  | _ => simp only [hx] at hw1; exact hw1.elim
end
end Z

set_option linter.all false
set_option maxRecDepth 100000
set_option maxHeartbeats 4000000
namespace Z
section
open PySem PySem.Calls PyProof.Rows
open Sem (wp)
abbrev IsZipF (h : Heap) (z TI TO : Addr) (f0 : Value) (fl : Bool) : Prop :=
  h.get? z = some { cls := .type "zip", dict := none, data := .fields #[f0, .bool fl, .bool false, .ref TI, .ref TO], slots := #[] }
def F0ok (f0 : Value) : Prop := f0 = .none ∨ ∃ T : Addr, f0 = rawInt T
structure Zip3Apart (z TI TO i1 i2 i3 l1 l2 l3 : Addr) : Prop where
  TIz : TI ≠ z
  TOz : TO ≠ z
  i1z : i1 ≠ z
  i2z : i2 ≠ z
  i3z : i3 ≠ z
  TITO : TI ≠ TO
  TIi1 : TI ≠ i1
  TIi2 : TI ≠ i2
  TIi3 : TI ≠ i3
  TOi1 : TO ≠ i1
  TOi2 : TO ≠ i2
  TOi3 : TO ≠ i3
  i12 : i1 ≠ i2
  i13 : i1 ≠ i3
  i23 : i2 ≠ i3
  l1 : l1 ≠ z ∧ l1 ≠ TO ∧ l1 ≠ i1 ∧ l1 ≠ i2 ∧ l1 ≠ i3
  l2 : l2 ≠ z ∧ l2 ≠ TO ∧ l2 ≠ i1 ∧ l2 ≠ i2 ∧ l2 ≠ i3
  l3 : l3 ≠ z ∧ l3 ≠ TO ∧ l3 ≠ i1 ∧ l3 ≠ i2 ∧ l3 ≠ i3
variable {prog : Program} {w : World} {A : Around} {E : Value → Shared → Prop} {s : Shared}
theorem zipFree {z TI TO : Addr} {f0 : Value} {fl : Bool} {Q : Bool → Shared → Prop} (hz : IsZipF s.heap z TI TO f0 fl) (hf : F0ok f0)
    (h : ∀ b h' fl', IsZipF h' z TI TO f0 fl' → Heap.SameBut z s.heap h' → Q b { s with heap := h' }) : wpAny (model prog w) A (Builtin.SmallTypes.ownedTupleIsFree (.ref z)) Q E s := by
  unfold Builtin.SmallTypes.ownedTupleIsFree
  refine wpAny_bind (wpAny_field hz rfl (x := f0) rfl ?_)
  rcases hf with rfl | ⟨T, rfl⟩
  · exact wpAny_pure (h true s.heap fl hz (Heap.SameBut.refl _ _))
  · show wpAny _ _ (loadIfAlive ((T : Int).toNat) >>= _) _ _ _
    rw [Int.toNat_natCast]
    have go : ∀ o, wpAny (model prog w) A (do
        if Option.isNone (o : Option Obj) then return true
        if (← field (.ref z) 1) != .bool true then setField (.ref z) 1 (.bool true)
        return false) Q E s := by
      intro o
      cases o with
      | none => exact wpAny_pure (h true s.heap fl hz (Heap.SameBut.refl _ _))
      | some o =>
        simp only [Option.isNone_some, Bool.false_eq_true, if_false]
        refine wpAny_bind (wpAny_field hz rfl (x := .bool fl) rfl ?_)
        cases fl with
        | true =>
          rw [if_neg (show ¬ ((Value.bool true != Value.bool true) = true) from Bool.false_ne_true)]
          exact wpAny_pure (h false s.heap true hz (Heap.SameBut.refl _ _))
        | false =>
          rw [if_pos (show (Value.bool false != Value.bool true) = true from rfl)]
          exact wpAny_bind (wpAny_setField_rec hz (by simp) fun h₁ hz₁ hs₁ => wpAny_pure (h false h₁ true hz₁ hs₁))
    refine wpAny_bind ?_
    have h' := go (s.heap.get? T)
    exact fun _ _ _ => h'
theorem zip3_next_item {z TI TO i1 i2 i3 l1 l2 l3 : Addr} {f0 : Value} {fl : Bool} {k : Nat} {xs ys zs : Array Value} {x y u a b c : Value} {Q : Value → Shared → Prop} (D : Zip3Apart z TI TO i1 i2 i3 l1 l2 l3)
    (hz : IsZipF s.heap z TI TO f0 fl) (hf : F0ok f0) (hTI : IsTupOf3 s.heap TI (.ref i1) (.ref i2) (.ref i3)) (hTO : IsTupOf3 s.heap TO a b c)
    (h1 : s.heap.IsListIter i1 l1 k) (h2 : s.heap.IsListIter i2 l2 k) (h3 : s.heap.IsListIter i3 l3 k) (hl1 : s.heap.IsList l1 xs) (hl2 : s.heap.IsList l2 ys) (hl3 : s.heap.IsList l3 zs) (hx : xs[k]? = some x) (hy : ys[k]? = some y) (hu : zs[k]? = some u)
    (hQ : ∀ h' f0' fl', F0ok f0' → IsZipF h' z TI TO f0' fl' → (∃ a b c, IsTupOf3 h' TO a b c) → h'.IsListIter i1 l1 (k + 1) → h'.IsListIter i2 l2 (k + 1) → h'.IsListIter i3 l3 (k + 1) → IsTupOf3 h' s.heap.objs.size x y u → h'.objs.size = s.heap.objs.size + 1 →
      (∀ c o, c ≠ z → c ≠ TO → c ≠ i1 → c ≠ i2 → c ≠ i3 → s.heap.get? c = some o → h'.get? c = some o) → Q (.ref s.heap.objs.size) { s with heap := h' }) :
    wpAny (model prog w) A (Builtin.«zip.__next__» ⟨[.ref z], []⟩) (fun fin s' => ∃ v, fin = .done (.ret v) ∧ Q v s') E s := by
  show wpAny _ _ (field (.ref z) 2 >>= _) _ _ _
  refine wpAny_bind (wpAny_field hz rfl (x := .bool false) rfl ?_)
  show wpAny _ _ (field (.ref z) 3 >>= _) _ _ _
  refine wpAny_bind (wpAny_field hz rfl (x := .ref TI) rfl ?_)
  refine wpAny_bind (wpAny_seqItems hTI rfl ?_)
  show wpAny _ _ (Builtin.SmallTypes.ownedTupleIsFree (.ref z) >>= _) _ _ _
  refine wpAny_bind (zipFree hz hf fun fr h₀ fl0 hz₀ hs₀ => ?_)
  cases fr with
  | true =>
    simp only [if_true]
    refine wpAny_bind (wpAny_rule ?_)
    refine wpAny_bind (wpAny_field hz₀ rfl (x := .ref TO) rfl ?_)
    refine wpAny_bind (wpAny_setField_rec hz₀ (by simp) fun h₁ hz₁ hs₁' => ?_)
    replace hz₁ : IsZipF h₁ z TI TO .ellipsis fl0 := hz₁
    have hs₁ : ∀ c o, c ≠ z → s.heap.get? c = some o → h₁.get? c = some o := fun c o q e => hs₁'.extBut _ _ q (hs₀.extBut _ _ q e)
    have sz₁ : h₁.objs.size = s.heap.objs.size := by rw [hs₁'.1, hs₀.1]
    refine wpAny_bind ?_
    simp only [List.zipIdx_cons, List.zipIdx_nil, List.forIn_cons, List.forIn_nil]
    refine wpAny_bind (wpAny_bind (wpAny_onRaise ?_))
    show wpAny _ _ (Builtin.SmallTypes.nextOf (.ref i1) >>= _) _ _ _
    refine wpAny_bind (wpAny_nextOf_list_item (s := { s with heap := h₁ }) (h1.at fun o e => hs₁ _ o D.i1z e) (hl1.at fun o e => hs₁ _ o D.l1.1 e) hx fun h₂ h1₂ hs₂ => wpAny_pure ?_)
    have hTO₂ : IsTupOf3 h₂ TO a b c := hs₂.extBut _ _ D.TOi1 (hs₁ _ _ D.TOz hTO)
    refine wpAny_bind (wpAny_seqItems hTO₂ rfl ?_)
    refine wpAny_bind (updateSeq_IsTupOf3 (s := { s with heap := h₂ }) hTO₂ fun h₃ hTO₃ hs₃ => ?_)
    replace hTO₃ : IsTupOf3 h₃ TO x b c := hTO₃
    refine wpAny_bind (wpAny_letGo (wpAny_pure ?_))
    refine wpAny_bind (wpAny_bind (wpAny_onRaise ?_))
    show wpAny _ _ (Builtin.SmallTypes.nextOf (.ref i2) >>= _) _ _ _
    refine wpAny_bind (wpAny_nextOf_list_item (s := { s with heap := h₃ }) (((h2.at fun o e => hs₁ _ o D.i2z e).extBut hs₂.extBut D.i12.symm).extBut hs₃.extBut D.TOi2.symm)
      (((hl2.at fun o e => hs₁ _ o D.l2.1 e).extBut hs₂.extBut D.l2.2.2.1).extBut hs₃.extBut D.l2.2.1) hy fun h₄ h2₄ hs₄ => wpAny_pure ?_)
    have hTO₄ : IsTupOf3 h₄ TO x b c := hs₄.extBut _ _ D.TOi2 hTO₃
    refine wpAny_bind (wpAny_seqItems hTO₄ rfl ?_)
    refine wpAny_bind (updateSeq_IsTupOf3 (s := { s with heap := h₄ }) hTO₄ fun h₅ hTO₅ hs₅ => ?_)
    replace hTO₅ : IsTupOf3 h₅ TO x y c := hTO₅
    refine wpAny_bind (wpAny_letGo (wpAny_pure ?_))
    refine wpAny_bind (wpAny_bind (wpAny_onRaise ?_))
    show wpAny _ _ (Builtin.SmallTypes.nextOf (.ref i3) >>= _) _ _ _
    refine wpAny_bind (wpAny_nextOf_list_item (s := { s with heap := h₅ }) (((((h3.at fun o e => hs₁ _ o D.i3z e).extBut hs₂.extBut D.i13.symm).extBut hs₃.extBut D.TOi3.symm).extBut hs₄.extBut D.i23.symm).extBut hs₅.extBut D.TOi3.symm)
      (((((hl3.at fun o e => hs₁ _ o D.l3.1 e).extBut hs₂.extBut D.l3.2.2.1).extBut hs₃.extBut D.l3.2.1).extBut hs₄.extBut D.l3.2.2.2.1).extBut hs₅.extBut D.l3.2.1) hu fun h₆ h3₆ hs₆ => wpAny_pure ?_)
    have hTO₆ : IsTupOf3 h₆ TO x y c := hs₆.extBut _ _ D.TOi3 hTO₅
    refine wpAny_bind (wpAny_seqItems hTO₆ rfl ?_)
    refine wpAny_bind (updateSeq_IsTupOf3 (s := { s with heap := h₆ }) hTO₆ fun h₇ hTO₇ hs₇ => ?_)
    replace hTO₇ : IsTupOf3 h₇ TO x y u := hTO₇
    refine wpAny_bind (wpAny_letGo (wpAny_pure (wpAny_pure ?_)))
    refine wpAny_bind (wpAny_seqItems hTO₇ rfl ?_)
    refine wpAny_bind (wpAny_newTuple ?_)
    have hsz : h₇.objs.size = s.heap.objs.size := by rw [hs₇.1, hs₆.1, hs₅.1, hs₄.1, hs₃.1, hs₂.1, sz₁]
    have k₇ : ∀ c o, c ≠ z → c ≠ TO → c ≠ i1 → c ≠ i2 → c ≠ i3 → s.heap.get? c = some o → h₇.get? c = some o := fun c o c1 c2 c3 c4 c5 e =>
      hs₇.extBut _ _ c2 (hs₆.extBut _ _ c5 (hs₅.extBut _ _ c2 (hs₄.extBut _ _ c4 (hs₃.extBut _ _ c2 (hs₂.extBut _ _ c3 (hs₁ _ _ c1 e))))))
    have hz₇ : IsZipF h₇ z TI TO .ellipsis fl0 := hs₇.extBut _ _ D.TOz.symm (hs₆.extBut _ _ D.i3z.symm (hs₅.extBut _ _ D.TOz.symm (hs₄.extBut _ _ D.i2z.symm (hs₃.extBut _ _ D.TOz.symm (hs₂.extBut _ _ D.i1z.symm hz₁)))))
    have h1₇ : h₇.IsListIter i1 l1 (k + 1) := ((((h1₂.extBut hs₃.extBut D.TOi1.symm).extBut hs₄.extBut D.i12).extBut hs₅.extBut D.TOi1.symm).extBut hs₆.extBut D.i13).extBut hs₇.extBut D.TOi1.symm
    have h2₇ : h₇.IsListIter i2 l2 (k + 1) := ((h2₄.extBut hs₅.extBut D.TOi2.symm).extBut hs₆.extBut D.i23).extBut hs₇.extBut D.TOi2.symm
    have h3₇ : h₇.IsListIter i3 l3 (k + 1) := h3₆.extBut hs₇.extBut D.TOi3.symm
    have hzlt : z < h₇.objs.size := Heap.lt_size hz₇
    show wpAny _ _ (Builtin.SmallTypes.ownedTupleHandOut (.ref z) (.ref h₇.objs.size) >>= _) _ _ _
    refine wpAny_bind ?_
    unfold Builtin.SmallTypes.ownedTupleHandOut
    have hz₈ : IsZipF (h₇.push { cls := .type "tuple", data := .seq #[x, y, u] }) z TI TO .ellipsis fl0 := Heap.get?_push_of_some _ hz₇
    refine wpAny_bind (wpAny_setField_rec hz₈ (by simp) fun h₉ hz₉ hs₉ => ?_)
    replace hz₉ : IsZipF h₉ z TI TO (rawInt h₇.objs.size) fl0 := hz₉
    refine wpAny_setField_rec hz₉ (by simp) fun h₁₀ hz₁₀ hs₁₀ => ?_
    replace hz₁₀ : IsZipF h₁₀ z TI TO (rawInt h₇.objs.size) false := hz₁₀
    have up : ∀ c o, c ≠ z → h₇.get? c = some o → h₁₀.get? c = some o := fun c o c1 e => hs₁₀.extBut _ _ c1 (hs₉.extBut _ _ c1 (Heap.get?_push_of_some _ e))
    have hT : IsTupOf3 h₁₀ h₇.objs.size x y u := hs₁₀.extBut _ _ (Nat.ne_of_gt hzlt) (hs₉.extBut _ _ (Nat.ne_of_gt hzlt) (Heap.get?_push_size _ rfl))
    have hz8 : h₁₀.objs.size = h₇.objs.size + 1 := by rw [hs₁₀.1, hs₉.1, Heap.size_push]
    rw [hsz] at hz₁₀ hT hz8
    refine wpAny_pure ⟨_, rfl, ?_⟩
    show Q (.ref h₇.objs.size) _
    rw [hsz]
    exact hQ h₁₀ _ _ (.inr ⟨_, rfl⟩) hz₁₀ ⟨_, _, _, up _ _ D.TOz hTO₇⟩ (h1₇.at fun o e => up _ o D.i1z e) (h2₇.at fun o e => up _ o D.i2z e) (h3₇.at fun o e => up _ o D.i3z e) hT hz8 fun c o c1 c2 c3 c4 c5 e => up c o c1 (k₇ c o c1 c2 c3 c4 c5 e)
  | false =>
    simp only [Bool.false_eq_true, if_false]
    refine wpAny_bind ?_
    rw [← Array.forIn_toList]
    simp only [List.forIn_cons, List.forIn_nil]
    refine wpAny_bind (wpAny_bind (wpAny_holding ?_))
    show wpAny _ _ (Builtin.SmallTypes.nextOf (.ref i1) >>= _) _ _ _
    refine wpAny_bind (wpAny_nextOf_list_item (s := { s with heap := h₀ }) (h1.extBut hs₀.extBut D.i1z) (hl1.extBut hs₀.extBut D.l1.1) hx fun h₂ h1₂ hs₂ => wpAny_pure ?_)
    refine wpAny_pure ?_
    refine wpAny_bind (wpAny_bind (wpAny_holding ?_))
    show wpAny _ _ (Builtin.SmallTypes.nextOf (.ref i2) >>= _) _ _ _
    refine wpAny_bind (wpAny_nextOf_list_item (s := { s with heap := h₂ }) ((h2.extBut hs₀.extBut D.i2z).extBut hs₂.extBut D.i12.symm) ((hl2.extBut hs₀.extBut D.l2.1).extBut hs₂.extBut D.l2.2.2.1) hy fun h₃ h2₃ hs₃ => wpAny_pure ?_)
    refine wpAny_pure ?_
    refine wpAny_bind (wpAny_bind (wpAny_holding ?_))
    show wpAny _ _ (Builtin.SmallTypes.nextOf (.ref i3) >>= _) _ _ _
    refine wpAny_bind (wpAny_nextOf_list_item (s := { s with heap := h₃ }) (((h3.extBut hs₀.extBut D.i3z).extBut hs₂.extBut D.i13.symm).extBut hs₃.extBut D.i23.symm) (((hl3.extBut hs₀.extBut D.l3.1).extBut hs₂.extBut D.l3.2.2.1).extBut hs₃.extBut D.l3.2.2.2.1) hu fun h₄ h3₄ hs₄ => wpAny_pure ?_)
    refine wpAny_pure (wpAny_pure ?_)
    show wpAny _ _ (newTuple [x, y, u] >>= _) _ _ _
    refine wpAny_bind (wpAny_newTuple ?_)
    have hsz : h₄.objs.size = s.heap.objs.size := by rw [hs₄.1, hs₃.1, hs₂.1, hs₀.1]
    have hz₄ : IsZipF h₄ z TI TO f0 fl0 := hs₄.extBut _ _ D.i3z.symm (hs₃.extBut _ _ D.i2z.symm (hs₂.extBut _ _ D.i1z.symm hz₀))
    have hTO₄ : IsTupOf3 h₄ TO a b c := hs₄.extBut _ _ D.TOi3 (hs₃.extBut _ _ D.TOi2 (hs₂.extBut _ _ D.TOi1 (hs₀.extBut _ _ D.TOz hTO)))
    have hk : ∀ c o, c ≠ z → c ≠ i1 → c ≠ i2 → c ≠ i3 → s.heap.get? c = some o → h₄.get? c = some o := fun c o c1 c2 c3 c4 e => hs₄.extBut _ _ c4 (hs₃.extBut _ _ c3 (hs₂.extBut _ _ c2 (hs₀.extBut _ _ c1 e)))
    have h1₄ : h₄.IsListIter i1 l1 (k + 1) := (h1₂.extBut hs₃.extBut D.i12).extBut hs₄.extBut D.i13
    have h2₄ : h₄.IsListIter i2 l2 (k + 1) := h2₃.extBut hs₄.extBut D.i23
    refine wpAny_pure ⟨_, rfl, ?_⟩
    show Q (.ref h₄.objs.size) _
    have hp : IsTupOf3 (h₄.push { cls := .type "tuple", data := .seq #[x, y, u] }) h₄.objs.size x y u := Heap.get?_push_size _ rfl
    have hz4 : (h₄.push { cls := .type "tuple", data := .seq #[x, y, u] }).objs.size = h₄.objs.size + 1 := Heap.size_push ..
    rw [hsz] at hp hz4 ⊢
    exact hQ _ f0 fl0 hf (Heap.get?_push_of_some _ hz₄) ⟨_, _, _, Heap.get?_push_of_some _ hTO₄⟩ (h1₄.at fun o e => Heap.get?_push_of_some _ e) (h2₄.at fun o e => Heap.get?_push_of_some _ e) (h3₄.at fun o e => Heap.get?_push_of_some _ e) hp hz4
      fun c o c1 c2 c3 c4 c5 e => Heap.get?_push_of_some _ (hk c o c1 c3 c4 c5 e)
theorem zip3_next_end {z TI TO i1 i2 i3 l1 l2 l3 : Addr} {f0 : Value} {fl : Bool} {k : Nat} {xs : Array Value} {a b c : Value} {Q : Fin → Shared → Prop} (hh : A.handled = none) (D : Zip3Apart z TI TO i1 i2 i3 l1 l2 l3)
    (hz : IsZipF s.heap z TI TO f0 fl) (hf : F0ok f0) (hTI : IsTupOf3 s.heap TI (.ref i1) (.ref i2) (.ref i3)) (hTO : IsTupOf3 s.heap TO a b c)
    (h1 : s.heap.IsListIter i1 l1 k) (hl1 : s.heap.IsList l1 xs) (hx : xs[k]? = none)
    (hE : ∀ h' e, (∀ c o, c ≠ z → c ≠ TO → c ≠ i1 → c ≠ i2 → c ≠ i3 → s.heap.get? c = some o → h'.get? c = some o) → (∃ o, h'.get? e = some o ∧ o.cls = .type "StopIteration") → E (.ref e) { s with heap := h' }) :
    wpAny (model prog w) A (Builtin.«zip.__next__» ⟨[.ref z], []⟩) Q E s := by
  show wpAny _ _ (field (.ref z) 2 >>= _) _ _ _
  refine wpAny_bind (wpAny_field hz rfl (x := .bool false) rfl ?_)
  show wpAny _ _ (field (.ref z) 3 >>= _) _ _ _
  refine wpAny_bind (wpAny_field hz rfl (x := .ref TI) rfl ?_)
  refine wpAny_bind (wpAny_seqItems hTI rfl ?_)
  show wpAny _ _ (Builtin.SmallTypes.ownedTupleIsFree (.ref z) >>= _) _ _ _
  refine wpAny_bind (zipFree hz hf fun fr h₀ fl0 hz₀ hs₀ => ?_)
  cases fr with
  | true =>
    simp only [if_true]
    refine wpAny_bind (wpAny_rule ?_)
    refine wpAny_bind (wpAny_field hz₀ rfl (x := .ref TO) rfl ?_)
    refine wpAny_bind (wpAny_setField_rec hz₀ (by simp) fun h₁ hz₁ hs₁' => ?_)
    replace hz₁ : IsZipF h₁ z TI TO .ellipsis fl0 := hz₁
    have hs₁ : ∀ c o, c ≠ z → s.heap.get? c = some o → h₁.get? c = some o := fun c o q e => hs₁'.extBut _ _ q (hs₀.extBut _ _ q e)
    refine wpAny_bind ?_
    simp only [List.zipIdx_cons, List.zipIdx_nil, List.forIn_cons, List.forIn_nil]
    refine wpAny_bind (wpAny_bind (wpAny_onRaise ?_))
    show wpAny _ _ (Builtin.SmallTypes.nextOf (.ref i1) >>= _) _ _ _
    refine wpAny_bind (wpAny_nextOf_list_end (s := { s with heap := h₁ }) hh (h1.at fun o e => hs₁ _ o D.i1z e) (hl1.at fun o e => hs₁ _ o D.l1.1 e) hx fun h₂ e hs₂ he => ?_)
    obtain ⟨oe, hoe, hce⟩ := he
    have hz₂ : IsZipF h₂ z TI TO .ellipsis fl0 := hs₂ _ _ D.i1z.symm hz₁
    have hez : e ≠ z := fun x => by subst x; rw [hz₂] at hoe; cases hoe; simp at hce
    refine wpAny_setField_rec hz₂ (by simp) fun h₃ _ hs₃ => hE h₃ e (fun c o c1 _ c3 _ _ x => hs₃.extBut _ _ c1 (hs₂ _ _ c3 (hs₁ _ _ c1 x))) ⟨oe, hs₃.extBut _ _ hez hoe, hce⟩
  | false =>
    simp only [Bool.false_eq_true, if_false]
    refine wpAny_bind ?_
    rw [← Array.forIn_toList]
    simp only [List.forIn_cons, List.forIn_nil]
    refine wpAny_bind (wpAny_bind (wpAny_holding ?_))
    show wpAny _ _ (Builtin.SmallTypes.nextOf (.ref i1) >>= _) _ _ _
    refine wpAny_bind (wpAny_nextOf_list_end (s := { s with heap := h₀ }) hh (h1.extBut hs₀.extBut D.i1z) (hl1.extBut hs₀.extBut D.l1.1) hx fun h₂ e hs₂ he => ?_)
    exact hE h₂ e (fun c o c1 c2 c3 _ _ x => hs₂ _ _ c3 (hs₀.extBut _ _ c1 x)) he
theorem pyNext_zip3_item {z TI TO i1 i2 i3 l1 l2 l3 : Addr} {f0 : Value} {fl : Bool} {k : Nat} {xs ys zs : Array Value} {x y u a b c : Value} {Q : Option Value → Shared → Prop} (D : Zip3Apart z TI TO i1 i2 i3 l1 l2 l3)
    (hz : IsZipF s.heap z TI TO f0 fl) (hf : F0ok f0) (hTI : IsTupOf3 s.heap TI (.ref i1) (.ref i2) (.ref i3)) (hTO : IsTupOf3 s.heap TO a b c)
    (h1 : s.heap.IsListIter i1 l1 k) (h2 : s.heap.IsListIter i2 l2 k) (h3 : s.heap.IsListIter i3 l3 k) (hl1 : s.heap.IsList l1 xs) (hl2 : s.heap.IsList l2 ys) (hl3 : s.heap.IsList l3 zs) (hx : xs[k]? = some x) (hy : ys[k]? = some y) (hu : zs[k]? = some u)
    (hQ : ∀ h' f0' fl', F0ok f0' → IsZipF h' z TI TO f0' fl' → (∃ a b c, IsTupOf3 h' TO a b c) → h'.IsListIter i1 l1 (k + 1) → h'.IsListIter i2 l2 (k + 1) → h'.IsListIter i3 l3 (k + 1) → IsTupOf3 h' s.heap.objs.size x y u → h'.objs.size = s.heap.objs.size + 1 →
      (∀ c o, c ≠ z → c ≠ TO → c ≠ i1 → c ≠ i2 → c ≠ i3 → s.heap.get? c = some o → h'.get? c = some o) → Q (some (.ref s.heap.objs.size)) { s with heap := h' }) : wpAny (model prog w) A (pyNext (.ref z)) Q E s := by
  have hT : s.TypeIs (.ref z) "zip" := ⟨_, hz, rfl⟩
  unfold pyNext
  exact wpAny_bind (wpAny_attempt (wpAny_callSpecial?_slot (name := Str.ofString "__next__") hT F.slot_zip_next
    (wpAny_call_entry F.slot_zip_next hT F.entry_zip_next
      (zip3_next_item D hz hf hTI hTO h1 h2 h3 hl1 hl2 hl3 hx hy hu fun h' f0' fl' a0 a1 a2 a3 a4 a5 a6 a7 a8 => wpAny_pure (hQ h' f0' fl' a0 a1 a2 a3 a4 a5 a6 a7 a8)) (F.args_zip_next_1 _))))
theorem pyNext_zip3_end {z TI TO i1 i2 i3 l1 l2 l3 : Addr} {f0 : Value} {fl : Bool} {k : Nat} {xs : Array Value} {a b c : Value} {Q : Option Value → Shared → Prop} (hh : A.handled = none) (D : Zip3Apart z TI TO i1 i2 i3 l1 l2 l3)
    (hz : IsZipF s.heap z TI TO f0 fl) (hf : F0ok f0) (hTI : IsTupOf3 s.heap TI (.ref i1) (.ref i2) (.ref i3)) (hTO : IsTupOf3 s.heap TO a b c)
    (h1 : s.heap.IsListIter i1 l1 k) (hl1 : s.heap.IsList l1 xs) (hx : xs[k]? = none)
    (hQ : ∀ h', (∀ c o, c ≠ z → c ≠ TO → c ≠ i1 → c ≠ i2 → c ≠ i3 → s.heap.get? c = some o → h'.get? c = some o) → Q none { s with heap := h' }) : wpAny (model prog w) A (pyNext (.ref z)) Q E s := by
  have hT : s.TypeIs (.ref z) "zip" := ⟨_, hz, rfl⟩
  unfold pyNext
  refine wpAny_bind (wpAny_attempt (wpAny_callSpecial?_slot (name := Str.ofString "__next__") hT F.slot_zip_next
    (wpAny_call_entry F.slot_zip_next hT F.entry_zip_next (zip3_next_end hh D hz hf hTI hTO h1 hl1 hx fun h' e hk he => ?_) (F.args_zip_next_1 _))))
  obtain ⟨o, ho, hc⟩ := he
  refine wpAny_bind (wpAny_isInstance (T := "StopIteration") (b := true) ⟨o, ho, hc⟩ isSubtype_stop ?_)
  exact wpAny_pure (hQ _ hk)
theorem pyIter_zipF {z TI TO : Addr} {f0 : Value} {fl : Bool} {Q : Value → Shared → Prop} (hz : IsZipF s.heap z TI TO f0 fl) (h : Q (.ref z) s) : wpAny (model prog w) A (pyIter (.ref z)) Q E s := by
  have hT : s.TypeIs (.ref z) "zip" := ⟨_, hz, rfl⟩
  refine wpAny_pyIter_slot hT F.slot_zip_iter (wpAny_call_entry F.slot_zip_iter hT F.entry_zip_iter ?_ (F.args_zip_iter_1 _))
  show wpAny _ _ (ret (.ref z)) _ _ s
  exact wpAny_pure ⟨_, rfl, "zip", _, hT, F.slot_zip_next.lookup, h⟩
end
open PySem PySem.Spec PyProof.Rows
open L2 (V Hp HO Key VK XK TE TT TA TS TG TGs TO TI WX Cx Inv Ends SqL SqT Same upd upd_same upd_ne ne_of ne_of_none OpR UnR CallR R2 Dp DpAll IxR SlR PE PT PW PA PS PSs PG PGs PI PO PTs PK FnOk Room Vals RelV Sp EP thn MtR FpOk ObjOk Turn)
open L2 (Takes XE BlkOk)
def Itz3 (K : PySem.W.Frag) (a b c : Addr) : L2.It :=
  ⟨fun i H => ∃ (xs ys zs : List V) (x y u : V), SqL K H a xs ∧ SqL K H b ys ∧ SqL K H c zs ∧ xs[i]? = some x ∧ ys[i]? = some y ∧ zs[i]? = some u,
    fun i H v H' => ∃ T x y u, v = .ref T ∧ H T = none ∧ H' = upd H T (.tup [x, y, u]) ∧ (∀ xs, SqL K H a xs → xs[i]? = some x) ∧ (∀ ys, SqL K H b ys → ys[i]? = some y) ∧ ∀ zs, SqL K H c zs → zs[i]? = some u,
    fun i H => ∃ xs : List V, SqL K H a xs ∧ xs.length ≤ i⟩
theorem turn_zip3 {P : Program} {w : World} {K : PySem.W.Frag} {x : Str} {tpos : Pos} {a b c z TI TO i1 i2 i3 : Addr} (D : Zip3Apart z TI TO i1 i2 i3 a b c) :
    Turn P w K (.Name x tpos) (Itz3 K a b c) [z, TI, TO, i1, i2, i3] z (fun i h => (∃ f0 fl, F0ok f0 ∧ IsZipF h z TI TO f0 fl) ∧ IsTupOf3 h TI (.ref i1) (.ref i2) (.ref i3) ∧ (∃ x y u, IsTupOf3 h TO x y u) ∧ h.IsListIter i1 a i ∧ h.IsListIter i2 b i ∧ h.IsListIter i3 c i) where
  mem := by simp
  obj := fun i h st d hc => by
    obtain ⟨⟨f0, fl, hf, hz⟩, hTI, ⟨x, y, u, hTO⟩, ⟨o1, e1, _, d1⟩, ⟨o2, e2, _, d2⟩, ⟨o3, e3, _, d3⟩⟩ := st
    have e' : d = z ∨ d = TI ∨ d = TO ∨ d = i1 ∨ d = i2 ∨ d = i3 := by simpa using hc
    rcases e' with q | q | q | q | q | q
    · rw [q]; exact ⟨_, hz, fun v q => nomatch q⟩
    · rw [q]; exact ⟨_, hTI, fun v q => nomatch q⟩
    · rw [q]; exact ⟨_, hTO, fun v q => nomatch q⟩
    · rw [q]; exact ⟨o1, e1, fun v q => by rw [d1] at q; cases q⟩
    · rw [q]; exact ⟨o2, e2, fun v q => by rw [d2] at q; cases q⟩
    · rw [q]; exact ⟨o3, e3, fun v q => by rw [d3] at q; cases q⟩
  keep := fun i h h' st k => by
    obtain ⟨⟨f0, fl, hf, hz⟩, hTI, ⟨x, y, u, hTO⟩, h1, h2, h3⟩ := st
    exact ⟨⟨f0, fl, hf, k z (by simp) _ hz⟩, k TI (by simp) _ hTI, ⟨x, y, u, k TO (by simp) _ hTO⟩, h1.at fun o q => k i1 (by simp) o q, h2.at fun o q => k i2 (by simp) o q, h3.at fun o q => k i3 (by simp) o q⟩
  item := by
    intro X hP hw hK hc i pins s σ H E I hf st hg
    subst hP hw hK
    obtain ⟨⟨f0, fl, hf0, hz⟩, hTI, ⟨x0, y0, u0, hTO⟩, h1, h2, h3⟩ := st
    obtain ⟨xs, ys, zs, x, y, u, hqx, hqy, hqz, hx, hy, hu⟩ := hg
    obtain ⟨its, rv, p, _⟩ := I.list hqx
    obtain ⟨its2, rv2, p2, _⟩ := I.list hqy
    obtain ⟨its3, rv3, p3, _⟩ := I.list hqz
    obtain ⟨a1, ha1, ra1⟩ := rv.get hx
    obtain ⟨a2, ha2, ra2⟩ := rv2.get hy
    obtain ⟨a3, ha3, ra3⟩ := rv3.get hu
    refine pyNext_zip3_item D hz hf0 hTI hTO h1 h2 h3 p.isList p2.isList p3.isList (x := a1) (y := a2) (u := a3) (by simpa using ha1) (by simpa using ha2) (by simpa using ha3) fun h' f0' fl' hf' z' TO' h1' h2' h3' hT hsz hk => ?_
    have new : ObjOk X.prog X.w (upd H s.heap.objs.size (.tup [x, y, u])) h' s.heap.objs.size (.tup [x, y, u]) :=
      ⟨by show 3 ≤ sizeLine; decide, [a1, a2, a3], .cons ra1 (.cons ra2 (.cons ra3 .nil)), ⟨_, hT, rfl, _, rfl⟩⟩
    have I1 : Inv X pins σ (upd H s.heap.objs.size (.tup [x, y, u])) { s with heap := h' } :=
      I.turnedNew (t' := s.toks) (ch := [z, TI, TO, i1, i2, i3]) (fun c o hb q => hk c o (fun q' => hb (by simp [q'])) (fun q' => hb (by simp [q'])) (fun q' => hb (by simp [q'])) (fun q' => hb (by simp [q'])) (fun q' => hb (by simp [q'])) q) hf (Nat.le_refl _) new
    refine ⟨_, rfl, ?_⟩
    unfold letOwnedTupleGo
    refine wpAny_pure ⟨.ref s.heap.objs.size, _, I1, rfl, ⟨_, x, y, u, rfl, I.hok.fresh (Nat.le_refl _), rfl, fun l hl => by rw [I.list_inj hl hqx]; exact hx, fun l hl => by rw [I.list_inj hl hqy]; exact hy, fun l hl => by rw [I.list_inj hl hqz]; exact hu⟩, ⟨⟨f0', fl', hf', z'⟩, ?_, TO', h1', h2', h3'⟩, fun d hcm => ?_⟩
    · exact hk _ _ D.TIz D.TITO D.TIi1 D.TIi2 D.TIi3 hTI
    · have hlt : d < s.heap.objs.size := by
        have e' : d = z ∨ d = TI ∨ d = TO ∨ d = i1 ∨ d = i2 ∨ d = i3 := by simpa using hcm
        rcases e' with q | q | q | q | q | q
        · rw [q]; exact Heap.lt_size hz
        · rw [q]; exact Heap.lt_size hTI
        · rw [q]; exact Heap.lt_size hTO
        · rw [q]; obtain ⟨_, e1, _⟩ := h1; exact Heap.lt_size e1
        · rw [q]; obtain ⟨_, e2, _⟩ := h2; exact Heap.lt_size e2
        · rw [q]; obtain ⟨_, e3, _⟩ := h3; exact Heap.lt_size e3
      rw [upd_ne (Nat.ne_of_lt hlt)]
      exact (hf d hcm).1
  done := by
    intro X hP hw hK hc i pins s σ H E I hf st hg
    subst hP hw hK
    obtain ⟨⟨f0, fl, hf0, hz⟩, hTI, ⟨x0, y0, u0, hTO⟩, h1, h2, h3⟩ := st
    obtain ⟨xs, hqx, hend⟩ := hg
    obtain ⟨its, rv, p, _⟩ := I.list hqx
    have l1 := rv.length
    exact pyNext_zip3_end (I.ok.hd hc) D hz hf0 hTI hTO h1 p.isList (by simp; omega) fun h' hk => ⟨rfl, I.turnedL (t' := s.toks) (ch := [z, TI, TO, i1, i2, i3]) (fun c o hb q =>
      hk c o (fun q' => hb (by simp [q'])) (fun q' => hb (by simp [q'])) (fun q' => hb (by simp [q'])) (fun q' => hb (by simp [q'])) (fun q' => hb (by simp [q'])) q) hf⟩
  self := fun A i s Q E st h => by
    obtain ⟨⟨f0, fl, hf0, hz⟩, _⟩ := st
    exact pyIter_zipF hz h
theorem z3_apart (n a b c : Nat) (la : a < n) (lb : b < n) (lc : c < n) : Zip3Apart (n + 5) (n + 3) (n + 4) n (n + 1) (n + 2) a b c := by
  constructor <;> first
    | exact show (_ : Nat) ≠ _ by omega
    | exact ⟨show (_ : Nat) ≠ _ by omega, show (_ : Nat) ≠ _ by omega, show (_ : Nat) ≠ _ by omega, show (_ : Nat) ≠ _ by omega, show (_ : Nat) ≠ _ by omega⟩
def iZip3 (K : PySem.W.Frag) (ta : TA) : TI := fun σ H R => ta σ H fun vs H1 => ∃ a b c xs ys zs, vs = [.ref a, .ref b, .ref c] ∧ SqL K H1 a xs ∧ SqL K H1 b ys ∧ SqL K H1 c zs ∧ R (Itz3 K a b c) H1
theorem pi_zip3 {X : Cx} {e e2 e3 : Expr} {ta : TA} {p pos tpos : Pos} {x : Str} (hg : L2.Gl X "zip") (hm : X.mg "zip" = none) (ha : PA X [e, e2, e3] ta)
    (hs : starEach [e, e2, e3] X.env = (false, eval e X.env) :: starEach [e2, e3] X.env) (hpl : (backTo pos (starEach [e2, e3] X.env)).any (·.1) = false) :
    PI X (.Name x tpos) (.Call (.Name "zip" p) [e, e2, e3] [] pos) (iZip3 X.K ta) := by
  refine ⟨fun pins s σ H R I h => ?_⟩
  refine PyProof.Rows.Call_ (L2.ld_blt I hg hm PyProof.Rows.boot_zip (PyProof.Rows.callWith_type1 (thn (ha.run pos pins s σ H _ I h) fun us s1 ⟨vs, H1, I1, r1, q1⟩ => ?_) hs hpl))
  obtain ⟨a, b, c, xs, ys, zs, ex, hqx, hqy, hqz, q⟩ := q1
  subst ex
  cases r1 with
  | cons r rr =>
    cases rr with
    | cons r' rr =>
      cases rr with
      | cons r'' rr =>
        cases rr
        cases r
        cases r'
        cases r''
        obtain ⟨its, rv, p1, _⟩ := I1.list hqx
        obtain ⟨its2, rv2, p2, _⟩ := I1.list hqy
        obtain ⟨its3, rv3, p3, _⟩ := I1.list hqz
        refine zip_begins3 (begins_list a its.toArray) (begins_list b its2.toArray) (begins_list c its3.toArray) p1.isList p2.isList p3.isList fun h' hz hTI hTO h1 h2 h3 hsz hk => pyIter_zipF hz ?_
        have I2 : Inv X pins σ H1 { s1 with heap := h' } := I1.kept (t' := s1.toks) hk
        have la := p1.lt
        have lb := p2.lt
        have lc := p3.lt
        refine ⟨s1.heap.objs.size + 5, [s1.heap.objs.size + 5, s1.heap.objs.size + 3, s1.heap.objs.size + 4, s1.heap.objs.size, s1.heap.objs.size + 1, s1.heap.objs.size + 2], _, _, H1, rfl, I2,
          turn_zip3 (a := a) (b := b) (c := c) (i1 := s1.heap.objs.size) (i2 := s1.heap.objs.size + 1) (i3 := s1.heap.objs.size + 2) ?_, ⟨⟨.none, false, .inl rfl, hz⟩, hTI, ⟨_, _, _, hTO⟩, ⟨_, h1, rfl, rfl⟩, ⟨_, h2, rfl, rfl⟩, ⟨_, h3, rfl, rfl⟩⟩, fun d hcm => ?_, q⟩
        · exact z3_apart _ a b c la lb lc
        · have e' : d = s1.heap.objs.size + 5 ∨ d = s1.heap.objs.size + 3 ∨ d = s1.heap.objs.size + 4 ∨ d = s1.heap.objs.size ∨ d = s1.heap.objs.size + 1 ∨ d = s1.heap.objs.size + 2 := by simpa using hcm
          have hle : s1.heap.objs.size ≤ d := by
            rcases e' with z | z | z | z | z | z <;> rw [z] <;> first | exact Nat.le_refl _ | exact Nat.le_add_right _ _
          have I3 := I1.fpOk hle (I1.hok.fresh hle)
          exact I3
section
variable {X : Cx} {NM : Nm} {TB : Hp → Prop} {W : WX} {P : Prog} {Φ Ψ : Fun} {a b c e : Expr} {ia ib ic : IE} {p pos p' apos : Pos}
variable {K : PySem.W.Frag} {F : Hp}
theorem zip3_get {xs ys zs : List Dat} {i : Nat} {p : Dat × Dat × Dat} (h : (xs.zip (ys.zip zs))[i]? = some p) : xs[i]? = some p.1 ∧ ys[i]? = some p.2.1 ∧ zs[i]? = some p.2.2 := by
  rw [List.getElem?_zip_eq_some] at h
  obtain ⟨h1, h2⟩ := h
  rw [List.getElem?_zip_eq_some] at h2
  exact ⟨h1, h2.1, h2.2⟩
theorem IsIt.zip3L (tp : TbP TB) {a b c : Addr} {xs ys zs : List V} {ds es fs : List Dat} (q : SqL K F a xs) (q2 : SqL K F b ys) (q3 : SqL K F c zs) (r : RepVs K NM F xs ds) (r2 : RepVs K NM F ys es) (r3 : RepVs K NM F zs fs) (l1 : ds.length = es.length) (l2 : ds.length = fs.length) :
    IsIt K NM TB F (Itz3 K a b c) ((ds.zip (es.zip fs)).map fun p => .tup [p.1, p.2.1, p.2.2]) := fun i H G st hF rp => by
  have q' := sqL_rep rp hF q
  have q2' := sqL_rep rp hF q2
  have q3' := sqL_rep rp hF q3
  refine ⟨fun x hx => ?_, fun hi => ⟨xs, q', by
    rw [List.length_map, List.length_zip, List.length_zip] at hi
    have h1 := r.length
    omega⟩⟩
  rw [List.getElem?_map] at hx
  cases hd : (ds.zip (es.zip fs))[i]? with
  | none => rw [hd] at hx; cases hx
  | some d =>
    rw [hd] at hx
    obtain ⟨h1, h2, h3⟩ := zip3_get hd
    obtain ⟨v, hv, rv⟩ := r.get' h1
    obtain ⟨v2, hv2, rv2⟩ := r2.get' h2
    obtain ⟨v3, hv3, rv3⟩ := r3.get' h3
    refine ⟨⟨xs, ys, zs, v, v2, v3, q', q2', q3', hv, hv2, hv3⟩, fun w H' ⟨T, x', y', u', e1, e2, e3, e4, e5, e6⟩ => ?_⟩
    subst e1 e3
    have := e4 xs q'
    rw [hv] at this
    cases this
    have := e5 ys q2'
    rw [hv2] at this
    cases this
    have := e6 zs q3'
    rw [hv3] at this
    cases this
    obtain ⟨G', h1, h2, h3⟩ := lay_tup tp rp e2 (.cons (rv.mono hF) (.cons (rv2.mono hF) (.cons (rv3.mono hF) .nil)))
    refine ⟨G', h1, h2, ?_⟩
    have : x = .tup [d.1, d.2.1, d.2.2] := (Option.some.inj hx).symm
    rw [this]
    exact h3
theorem di_zip3 {x : Str} {tpos : Pos} (tp : TbP TB) (hg : L2.Gl X "zip") (hm : X.mg "zip" = none) (ha : DE X NM TB W P Φ Ψ a ia) (hb : DE X NM TB W P Φ Ψ b ib) (hc : DE X NM TB W P Φ Ψ c ic) (n1 : isStar a = false) (n2 : isStar b = false) (n3 : isStar c = false) :
    DI X NM TB W P Φ Ψ (.Name x tpos) (.Call (.Name "zip" p) [a, b, c] [] pos) (.zip3 ia ib ic) := by
  have hs3 : starEach [c] X.env = [(false, eval c X.env)] := star1' n3
  have hs2 : starEach [b, c] X.env = [(false, eval b X.env), (false, eval c X.env)] := by rw [star_cons n2, hs3]
  have hs : starEach [a, b, c] X.env = [(false, eval a X.env), (false, eval b X.env), (false, eval c X.env)] := by rw [star_cons n1, hs2]
  refine PI.imp' (pi_zip3 hg hm (L2.pa_cons ha (L2.pa_cons hb (L2.pa_cons hc L2.pa_nil hs3) (by rw [hs2, hs3])) (by rw [hs, hs2])) (by rw [hs, hs2]) (by rw [hs2]; rfl)) fun σ H R ⟨δ, st, G, hE, hR, hw⟩ => ?_
  refine seqS .refl hE hR hw fun x st1 v H1 G1 e1 _ hE1 r1 x1 hw1 => ?_
  refine seqS e1 hE1 r1 hw1 fun y st2 u H2 G2 e2 l2 hE2 r2 x2 hw2 => ?_
  refine seqS e2 hE2 r2 hw2 fun zz st3 t H3 G3 e3 l3 hE3 r3 x3 hw3 => ?_
  have hw3 : (match seqOf x, seqOf y, seqOf zz with
    | some xs, some ys, some zs => if isTupD x || isTupD y || isTupD zz || xs.length != ys.length || xs.length != zs.length then .stuck else Res.ok ((xs.zip (ys.zip zs)).map fun (p : Dat × Dat × Dat) => Dat.tup [p.1, p.2.1, p.2.2]) st3
    | _, _, _ => .stuck : Res (List Dat)).wp _ _ := hw3
  have x1' := (x1.mono l2.sub).mono l3.sub
  have x2' := x2.mono l3.sub
  cases hx : seqOf x with
  | none => rw [hx] at hw3; exact hw3.elim
  | some xs =>
    cases hy : seqOf y with
    | none => rw [hx, hy] at hw3; exact hw3.elim
    | some ys =>
      cases hz : seqOf zz with
      | none => rw [hx, hy, hz] at hw3; exact hw3.elim
      | some zs =>
        rw [hx, hy, hz] at hw3
        by_cases hq : (isTupD x || isTupD y || isTupD zz || xs.length != ys.length || xs.length != zs.length) = true
        · have hw3 : (if (isTupD x || isTupD y || isTupD zz || xs.length != ys.length || xs.length != zs.length) = true then .stuck else Res.ok ((xs.zip (ys.zip zs)).map fun (p : Dat × Dat × Dat) => Dat.tup [p.1, p.2.1, p.2.2]) st3 : Res (List Dat)).wp _ _ := hw3
          rw [if_pos hq] at hw3
          exact hw3.elim
        · have hw3 : (if (isTupD x || isTupD y || isTupD zz || xs.length != ys.length || xs.length != zs.length) = true then .stuck else Res.ok ((xs.zip (ys.zip zs)).map fun (p : Dat × Dat × Dat) => Dat.tup [p.1, p.2.1, p.2.2]) st3 : Res (List Dat)).wp _ _ := hw3
          rw [if_neg hq] at hw3
          simp only [Bool.or_eq_true, not_or, Bool.not_eq_true, bne_eq_false_iff_eq] at hq
          obtain ⟨⟨⟨⟨k1, k2⟩, k3⟩, g1⟩, g2⟩ := hq
          rcases seq_kind x1' hx with ⟨_, t1, vs, rfl, rv, q1⟩ | ⟨z1, _⟩
          rcases seq_kind x2' hy with ⟨_, t2, us, rfl, ru, q2⟩ | ⟨z2, _⟩
          rcases seq_kind x3 hz with ⟨_, t3, ws, rfl, rw', q3⟩ | ⟨z3, _⟩
          · exact ⟨t1, t2, t3, vs, us, ws, rfl, SqL_mono r3.sub q1, SqL_mono r3.sub q2, SqL_mono r3.sub q3, hw3 _ _ _ e3 r3 (.zip3L tp q1 q2 q3 rv ru rw' g1 g2)⟩
          · rw [k3] at z3; cases z3
          · rw [k2] at z2; cases z2
          · rw [k1] at z1; cases z1
end
end Z



set_option linter.all false
set_option maxRecDepth 100000
set_option maxHeartbeats 2000000
namespace Z
open PySem PySem.Spec PyProof.Rows
open L2 (V Hp HO Key VK XK TE TT TA TS TG TGs TO TI WX Cx Inv Ends SqL SqT Same upd upd_same upd_ne ne_of ne_of_none OpR UnR CallR R2 Dp DpAll IxR SlR PE PT PW PA PS PSs PG PGs PI PO PTs PK FnOk Room Vals RelV Sp EP thn)
open L2 (Takes XE CXT Env0 ObjOk)
open NdefX (NF NScope CellsAt ncx envF startF)
section
variable {X : Cx} {NM : Nm} {TB : Hp → Prop} {W : WX} {P : Prog} {Φ Ψ : Fun}
theorem run_cmD {k : Nat} {q g x : Addr} {sp : Sp} {pins : List (Addr × Obj)} {σ : L2.St} {H : Hp} {s : Shared} {Q : VK} {us : List Value} {vs : List V} (F : FnR X.prog X.w X.K X.mg X.base (L2.CX X.prog X.w) k g sp) (hr : Room k X.A) (tk : Takes X W)
    (I : Inv X ((q, PySem.W.methodObj (.ref g) (.ref x)) :: pins) σ H s) (r : Vals vs us) (h : sp (.ref x :: vs) H Q fun c d H' => W c d σ H') : wpAny (model X.prog X.w) X.A (call (.ref q) us) (EP X pins σ Q) X.xe s := by
  have z : wpAny (model X.prog X.w) X.A (call (.ref q) us) (EP X ((q, PySem.W.methodObj (.ref g) (.ref x)) :: pins) σ Q) X.xe s := by
    refine wpAny_call (PySem.W.method_call (ClX.pin_at I) (codeAny_mono (F X.A X.stack s H (.ref x :: us) (.ref x :: vs) Q _ hr I.env0 (.cons rfl r) h) fun r s' hq => ?_))
    cases r with
    | error e => exact tk e s' (XE.of_call I (fun cls d H' h => h) hq)
    | ok fl =>
      cases fl with
      | ret u => exact I.after hq
      | next => exact False.elim hq
      | brk => exact False.elim hq
      | cont => exact False.elim hq
  exact thn z fun _ _ y => ClX.unpinE y
theorem meth_evalB {o : Expr} {m : Str} {apos pos : Pos} {es : List Expr} {env : PySem.Env} (h1 : noStars es = true) (h3 : es.length < 29) (h4 : (apos.endLine == pos.line) = true) :
    eval (.Call (.Attribute o m apos) es [] pos) env = (do
      let ov ← attributeBase o m env (eval o env)
      standAt apos.atName
      let (f, first) ← holding [ov] (getMethod ov m (do return (← importBound o env).getD true))
      callWith pos f first (backTo pos (starEach es env)) []) := by
  show (do
    let ov ← attributeBase o m env (eval o env)
    standAt apos.atName
    methodCall o m apos pos env ov (es.length + 0) (backTo pos (starEach es env)) (backToKw pos (keywordEach [] env))) = _
  have hf := form_ok (pos := pos) (env := env) (n := es.length + 0) (kws := []) h1 rfl (by simpa using h3)
  refine congrArg (attributeBase o m env (eval o env) >>= ·) (funext fun ov => ?_)
  refine congrArg (standAt apos.atName >>= ·) (funext fun _ => ?_)
  unfold methodCall
  rw [hf]
  refine congrArg (holding [ov] _ >>= ·) (funext fun p => ?_)
  have hp : methodCallPos true o env apos pos = pure pos := by
    unfold methodCallPos
    rw [if_pos (by rw [h4]; rfl)]
  obtain ⟨f, first⟩ := p
  rw [hp]
  simp only [pure_bind]
  rfl
/-- what a class's __init__ that calls super's must say -/
structure SupAt (X : Cx) (body : List Stmt) (ar : Arg) (D f2 : Addr) : Prop where
  fu : ∃ f oc od fd osl, X.env.func = some f ∧ X.K.lookup f = some ⟨oc, od, .func fd, osl⟩ ∧ (fd.params.posonlyargs ++ fd.params.args).head? = some ar
  cd : ∃ cda ccl cdd vs ccs file tf, X.env.code = .ref cda ∧ X.K.lookup cda = some ⟨ccl, cdd, .fields vs, ccs⟩ ∧ vs[2]? = some (.str file tf) ∧ ((X.prog.main.file : Str) == file) = true
  ce : ∃ cc cl cld csl, X.env.cells.lookup ("__class__" : Str) = some cc ∧ X.K.lookup cc = some ⟨cl, cld, .cell (some (.ref D)), csl⟩
  cl : ∃ cdD, PySem.W.clsIn X.K D = some cdD
  hks : X.env.scope.names.lookup ("super" : Str) = some .globalImplicit
  hkc : X.env.scope.names.lookup ("__class__" : Str) = some .free
  hka : X.env.scope.names.lookup ar.arg = some .local
  n0 : X.N[0]? = some ar.arg
  top : (X.prog.main.scope.names.lookup ("super" : Str)).isSome = false
  mg : X.mg "super" = none
  ho : PySem.W.nsIn X.K PySem.cStatics "thirdparty.any" = some none
  ty : PySem.W.typeIn X.K (.ref f2) = some (.type "function")
  fi : PySem.W.fnIn X.K f2 = true
/-- .. for the instances of a class -/
structure SupC (K : PySem.W.Frag) (C D f2 : Addr) : Prop where
  sub : PySem.W.mroIn K C (.ref D) = some true
  meth : PySem.W.ks_superIn K C D "__init__" = some (some (.ref f2))
theorem wpAt_mono' {α : Type} {M : Model} {A : Around} {c : Code} {E : Value → Shared → Prop} {s : Shared} {t : Sem α} {Q Q' : α → Shared → Prop} (h : _root_.PySem.wpAt M A c t Q E s) (hq : ∀ a s', Q a s' → Q' a s') : _root_.PySem.wpAt M A c t Q' E s := PySem.ks_wpAt_mono h hq fun _ _ z => z
theorem super_call {k g : Nat} {cs : List Nat} {iw : IE} {ies : List IE} {body : List Stmt} {ar : Arg} {D f2 : Addr} {p0 p1 ap cp : Pos} {w : Expr} {es : List Expr} (hr : Room k X.A) (tk : Takes X W) (T : SupAt X body ar D f2)
    (TC : ∀ c ∈ cs, SupC X.K (NM.cls c) D f2) (F2 : FnR X.prog X.w X.K X.mg X.base (L2.CX X.prog X.w) k f2 (spV X.K NM TB 2 (Φ g))) (ha : DL X NM TB W P Φ Ψ (w :: es) (iw :: ies)) (ns : noStars (w :: es) = true) (hn : (w :: es).length < 29) (h4 : (ap.endLine == cp.line) = true)
    {pins : List (Addr × Obj)} {σ : L2.St} {H : Hp} {s : Shared} {Q : VK} {δ : Env} {st : St} {G : Gw} (I : Inv X pins σ H s) (hE : RepE X.K NM G st.length σ δ) (hR : Rp X.K NM TB G H st) (hw : (ev P Φ Ψ (.supr g cs iw ies) δ st).wp (KX X.K NM TB G st Q) (EX X.K NM TB G st σ W)) :
    _root_.PySem.wpAt (model X.prog X.w) X.A (.func body X.env) (eval (.Call (.Attribute (.Call (.Name "super" p0) [] [] p1) "__init__" ap) (w :: es) [] cp) X.env) (EP X pins σ Q) X.xe s := by
  -- the instance
  have hw' : ((opt (δ.getD 0 none) st).bnd fun x s => match x with
    | .obj i => (match s[i]? with
      | some (.ins c _) => if cs.contains c then (ev P Φ Ψ iw δ s).bnd fun d s => (settle d s).bnd fun d s => (evD P Φ Ψ ies δ s).bnd fun rs s => if big rs.length then Φ g [.obj i, d, .tup rs] s else .stuck else .stuck
      | _ => .stuck)
    | _ => .stuck : Res Dat).wp (KX X.K NM TB G st Q) (EX X.K NM TB G st σ W) := hw
  obtain ⟨x0, e0, hw0⟩ := wp_optb hw'
  cases x0 with
  | obj i =>
    have hw0 : (match st[i]? with
      | some (.ins c _) => if cs.contains c then (ev P Φ Ψ iw δ st).bnd fun d s => (settle d s).bnd fun d s => (evD P Φ Ψ ies δ s).bnd fun rs s => if big rs.length then Φ g [.obj i, d, .tup rs] s else .stuck else .stuck
      | _ => .stuck : Res Dat).wp (KX X.K NM TB G st Q) (EX X.K NM TB G st σ W) := hw0
    cases hc : st[i]? with
    | none => rw [hc] at hw0; exact hw0.elim
    | some cell =>
      cases cell with
      | ins c fs =>
        rw [hc] at hw0
        by_cases hcs : cs.contains c = true
        · have hw0 : (if cs.contains c = true then (ev P Φ Ψ iw δ st).bnd fun d s => (settle d s).bnd fun d s => (evD P Φ Ψ ies δ s).bnd fun rs s => if big rs.length then Φ g [.obj i, d, .tup rs] s else .stuck else .stuck : Res Dat).wp (KX X.K NM TB G st Q) (EX X.K NM TB G st σ W) := hw0
          rw [if_pos hcs] at hw0
          have C := TC c (by simpa using hcs)
          obtain ⟨dx, gs, hH, _, _⟩ := hR.cells i _ hc
          have hi : i < st.length := by
            rcases Nat.lt_or_ge i st.length with h | h
            · exact h
            · rw [List.getElem?_eq_none h] at hc; cases hc
          obtain ⟨v, hv, rv⟩ := hE.at_ 0 (.obj i) (by
            cases q : δ[0]? with
            | none => rw [List.getD_eq_getElem?_getD, q] at e0; cases e0
            | some o => rw [List.getD_eq_getElem?_getD, q] at e0; rw [show o = some (Dat.obj i) from e0])
          obtain ⟨_, rfl⟩ := rv
          obtain ⟨hown, _, _, hobj, _⟩ := I.hok _ _ hH
          obtain ⟨f, oc, od, fd, osl, hfu, hf, hp⟩ := T.fu
          obtain ⟨cda, ccl, cdd, vs, ccs, file, tf, hco, hcode, hvs, hfile⟩ := T.cd
          obtain ⟨cc, cl, cld, csl, hce, hcell⟩ := T.ce
          obtain ⟨cdD, hD⟩ := T.cl
          have KI := I.kIn
          obtain ⟨oD, hD1, hD2⟩ : ∃ oD, s.heap.get? D = some oD ∧ oD.data = .cls cdD := by
            unfold PySem.W.clsIn at hD
            split at hD
            · rename_i c d cd' sl ho
              cases hD
              exact ⟨_, KI _ _ ho, rfl⟩
            · cases hD
          refine ks_wpAt_MethodCall ?_ (meth_evalB ns hn h4)
          refine ks_wpAt_super_base (env := X.env) T.hks T.hkc (by decide) hfu (KI _ _ hf) rfl hp hco (KI _ _ hcode) rfl hvs hfile T.top ?_
          obtain ⟨mb, hb1, hb2⟩ := I.mod.blt
          refine PySem.W.ks_loadName_global I.ok.kind T.hks (Calls.loadGlobal_builtin (by rw [I.ok.glob]; exact I.mod.glob.keeps I.bk) T.mg (by rw [I.ok.blt]; exact hb1.keeps I.bk) ((hb2 _ (by decide)).trans (by rfl)) ⟨rfl, ?_⟩)
          refine wpAny_loadName_free I.ok.kind T.hkc hce ⟨_, KI _ _ hcell, rfl⟩ ?_
          obtain ⟨m, hn, hl⟩ := I.loc
          obtain ⟨u, ru, lk⟩ := hl 0 ar.arg _ T.n0 hv (.inl T.hka)
          have hmu : m ar.arg = some u := by
            rcases lk with ⟨_, q⟩ | ⟨q, _⟩
            · exact q
            · have q : X.env.scope.names.lookup ar.arg = some .cell ∨ X.env.scope.names.lookup ar.arg = some .free := q
              rw [T.hka] at q
              rcases q with q | q <;> cases q
          obtain rfl : u = Value.ref (G.ι i) := ru
          refine wpAny_loadName_local I.ok.kind T.hka hn hmu ?_
          refine ks_wpAny_isType_cls hD1 hD2 ⟨rfl, ?_⟩
          refine ks_wpAny_call_super hD1 hD2 hobj rfl (fun c e => nomatch e) (PySem.W.looks_mroIn KI C.sub) fun h' e k' => ?_
          have I1 : Inv X pins σ H { s with heap := h' } := I.kept (t' := s.toks) k'
          have KI1 := I1.kIn
          have hm := C.meth
          cases hcl : PySem.W.clsIn X.K (NM.cls c) with
          | none => unfold PySem.W.ks_superIn at hm; rw [hcl] at hm; cases hm
          | some cd =>
            unfold PySem.W.ks_superIn at hm
            rw [hcl] at hm
            obtain ⟨of, hof, hofc⟩ : ∃ of, h'.get? f2 = some of ∧ of.cls = .type "function" := by
              have ht' : (X.K.lookup f2).map (·.cls) = some (.type "function") := T.ty
              cases z : X.K.lookup f2 with
              | none => rw [z] at ht'; cases ht'
              | some of => rw [z] at ht'; exact ⟨of, KI1 _ _ z, Option.some.inj ht'⟩
            have hne : G.ι i ≠ NM.cls c := fun z => by
              unfold PySem.W.clsIn at hcl
              split at hcl
              · rename_i c' d' cd' sl ho
                have e1 := KI _ _ ho
                rw [← z, hobj] at e1
                cases e1
              · cases hcl
            refine ks_wpAny_getMethod_super (A := X.A) (E := X.xe) (h := h') (g := s.gens) (d := s.drawn) (t := s.toks) (os := s.os) e (PySem.W.looks_opaque KI1 T.ho) (l₀ := cd.mro) (fun A Q E s k q => wpAny_bind ((PySem.W.looks_clsIn KI1 hcl) A _ E s k (wpAny_pure q))) rfl KI1 hm hof hofc hne (by decide) ?_
            have I2 := ClX.met_new (g := f2) (C := G.ι i) I1
            obtain ⟨ns1, ns2⟩ := noStars_cons ns
            have hb0 : X.base.get? (Heap.objs h').size = none := ClX.base_none I1 (Nat.le_refl _)
            refine ClX.callwith_cm I2 hb0 T.fi (thn (ha.run cp _ _ σ H (fun vs H2 => spV X.K NM TB 2 (Φ g) (.ref (G.ι i) :: vs) H2 Q fun c d H' => W c d σ H') I2 ?_) fun us s3 ⟨vs, H2, I3, rv, q2⟩ => ⟨⟨ClX.pin_at I3, I3.kIn⟩, run_cmD F2 hr tk I3 rv q2⟩) (star_cons ns1) (star_any ns2)
            have hw1 : ((evD P Φ Ψ (iw :: ies) δ st).bnd fun l s => match l with
              | d :: rs => if big rs.length then Φ g [.obj i, d, .tup rs] s else .stuck
              | [] => .stuck).wp (KX X.K NM TB G st Q) (EX X.K NM TB G st σ W) := by
              have eq : ((evD P Φ Ψ (iw :: ies) δ st).bnd fun l s => match l with
                | d :: rs => if big rs.length then Φ g [.obj i, d, .tup rs] s else .stuck
                | [] => .stuck) = ((ev P Φ Ψ iw δ st).bnd fun d s => (settle d s).bnd fun d s => (evD P Φ Ψ ies δ s).bnd fun rs s => if big rs.length then Φ g [.obj i, d, .tup rs] s else .stuck) := by
                show (((ev P Φ Ψ iw δ st).bnd fun d s => (settle d s).bnd fun d s => (evD P Φ Ψ ies δ s).bnd fun ds s => .ok (d :: ds) s).bnd _) = _
                rw [bnd_assoc]
                congr 1
                funext d s'
                rw [bnd_assoc]
                congr 1
                funext d2 s2
                rw [bnd_assoc]
                rfl
              rw [eq]
              exact hw0
            refine seqL .refl hE hR hw1 fun ds st1 vs H1 G1 e1 l1 hE1 r1 x1 hw2 => ?_
            cases x1 with
            | nil => exact hw2.elim
            | cons xv xr =>
              rename_i v0 d0 vs0 ds0
              have hw2 : (if big ds0.length then Φ g [.obj i, d0, .tup ds0] st1 else .stuck : Res Dat).wp (KX X.K NM TB G st Q) (EX X.K NM TB G st σ W) := hw2
              by_cases hb : big ds0.length = true
              rotate_left
              · rw [if_neg hb] at hw2; exact hw2.elim
              rw [if_pos hb] at hw2
              have hsz : vs0.length ≤ sizeLine := by rw [xr.length]; exact Nat.le_of_ble_eq_true hb
              refine ⟨[.obj i, d0], ds0, st1, G1, [.ref (G.ι i), v0], vs0, rfl, rfl, .cons ⟨Nat.lt_of_lt_of_le hi l1.len, by rw [l1.ι i hi]⟩ (.cons (xv.toR _) .nil), xr, hsz, r1, ?_⟩
              have hw2 : (Φ g [.obj i, d0, .tup ds0] st1).wp (KX X.K NM TB G st Q) (EX X.K NM TB G st σ W) := hw2
              show (Φ g [.obj i, d0, .tup ds0] st1).wp _ _
              cases q : Φ g [.obj i, d0, .tup ds0] st1 with
              | ok d s => rw [q] at hw2; exact fun v H' G' e' r a => hw2 v H' G' (e1.trans e') r a.toX
              | err c fs s => rw [q] at hw2; exact (EX.from e1 hw2).sig
              | stuck => rw [q] at hw2; exact hw2
        · have hw0 : (if cs.contains c = true then (ev P Φ Ψ iw δ st).bnd fun d s => (settle d s).bnd fun d s => (evD P Φ Ψ ies δ s).bnd fun rs s => if big rs.length then Φ g [.obj i, d, .tup rs] s else .stuck else .stuck : Res Dat).wp (KX X.K NM TB G st Q) (EX X.K NM TB G st σ W) := hw0
          rw [if_neg hcs] at hw0
          exact hw0.elim
      | _ => rw [hc] at hw0; exact hw0.elim
  | _ => exact hw0.elim
end
end Z

set_option linter.all false
set_option maxRecDepth 100000
set_option maxHeartbeats 2000000
namespace Z
open PySem PySem.Spec PyProof.Rows
open L2 (V Hp HO Key VK XK TE TT TA TS TG TGs TO TI WX Cx Inv Ends SqL SqT Same upd upd_same upd_ne ne_of ne_of_none OpR UnR CallR R2 Dp DpAll IxR SlR PE PT PW PA PS PSs PG PGs PI PO PTs PK FnOk Room Vals RelV Sp EP thn MtR)
open L2 (Takes XE BlkOk)
/-- what is known of a module's names -/
structure CT where
  fn : List (Str × Nat)
  pss : Nat → List Str
  cl : List (Str × Nat)
  ini : Nat → Option Nat
  con : List (Str × Dat)
  att : List Str
  bl : List Str
  crs : List CR
  strm : Nat
  exc : List Nat
  /-- the defs that hear what a lambda raises: the base class, what is told -/
  hd : List (Str × (Nat × HE)) := []
structure Ctx where
  N : List Str
  sc : Scope
  blk : Option Scope
  lam : Bool
def Ctx.fnOk (C : Ctx) (x : Str) : Bool := match C.blk with
  | none => true
  | some s => s.names.lookup x == some .cell
def Ctx.inn (C : Ctx) (scope : Scope) : Ctx := ⟨C.N, L2.relS scope C.sc, some scope, false⟩
def isGl (C : Ctx) (x : Str) : Bool := decide (C.sc.names.lookup x = some .globalImplicit) && !(x == ("__debug__" : Str))
def isVis (C : Ctx) (x : Str) : Bool := (decide (C.sc.names.lookup x = some .local) || decide (C.sc.names.lookup x = some .cell) || decide (C.sc.names.lookup x = some .free)) && !(x == ("__debug__" : Str)) && !(x == ("__classdict__" : Str))
def isLoc (C : Ctx) (x : Str) : Bool := decide (C.sc.names.lookup x = some .local) || (decide (C.sc.names.lookup x = some .cell) && C.fnOk x)
def idx (N : List Str) (x : Str) : Option Nat := N.findIdx? (· == x)
def constD : Const → Option Dat
  | .none => some .non
  | .bool b => some (.bl b)
  | .int i => some (.int i)
  | .str x => some (.str x)
  | _ => none
def bopD : Operator → Option BOp
  | .Add => some .add | .Sub => some .sub | .Mult => some .mul | .FloorDiv => some .fdiv | .Mod => some .mod | .Pow => some .pow | .LShift => some .shl | .RShift => some .shr | .BitAnd => some .band | .BitOr => some .bor
  | _ => none
def copD : CmpOp → Option COp
  | .Eq => some .eq | .NotEq => some .ne | .Lt => some .lt | .LtE => some .le | .Gt => some .gt | .GtE => some .ge | .Is => some .is_ | .IsNot => some .isnt | .In => some .in_ | .NotIn => some .nin
def allE {α β : Type} (f : α → Option β) : List α → Option (List β)
  | [] => some []
  | a :: r => match f a, allE f r with
    | some b, some bs => some (b :: bs)
    | _, _ => none
def boolE (f : Expr → Option IE) (op : PySem.BoolOp) : List Expr → Option IE
  | [] => none
  | [a] => f a
  | a :: b :: r => match f a, boolE f op (b :: r) with
    | some i, some j => some (match op with
      | .And => .and_ i j
      | .Or => .or_ i j)
    | _, _ => none
def boolT (f : Expr → Option IT) (op : PySem.BoolOp) : List Expr → Option IT
  | [] => none
  | [a] => f a
  | a :: b :: r => match f a, boolT f op (b :: r) with
    | some i, some j => some (match op with
      | .And => .and_ i j
      | .Or => .or_ i j)
    | _, _ => none
def notSl : Expr → Bool
  | .Slice _ _ _ _ => false
  | _ => true
def notSet : Expr → Bool
  | .Set _ _ _ => false
  | _ => true
def isTup : Expr → Bool
  | .Tuple _ _ _ => true
  | _ => false
def idPm (n : Nat) : List (Sum Nat Dat) := (List.range n).map .inl
def bi1 (x : Str) : Option BI :=
  if x == "len" then some .len else if x == "abs" then some .abs else if x == "int" then some .int else if x == "bool" then some .bool else if x == "sum" then some .sum else if x == "sorted" then some .sorted else
  if x == "any" then some .any else if x == "all" then some .all else if x == "max" then some .max else if x == "min" then some .min else if x == "list" then some .list else if x == "tuple" then some .tuple else none
def cCr (T : CT) (C : Ctx) : Expr → Option CR
  | .Name x _ => if isGl C x then (match T.cl.lookup x with
    | some c => some (.own c)
    | none => if T.bl.contains x then (if x == "int" then some (.ty "int") else if x == "bool" then some (.ty "bool") else if x == "str" then some (.ty "str") else if x == "list" then some (.ty "list") else if x == "tuple" then some (.ty "tuple") else if x == "dict" then some (.ty "dict") else none) else none) else none
  | _ => none
def cOpt (f : Expr → Option IE) : Option Expr → Option (Option IE)
  | none => some none
  | some e => (f e).map some
def ownOf (N : List Str) (scope : Scope) : List (Str × Nat) := scope.names.filterMap fun (n, k) => match k with
  | .local => (idx N n).map (n, ·)
  | .cell => (idx N n).map (n, ·)
  | _ => none
def cNm (C : Ctx) : Expr → Option Nat
  | .Name x _ => if isLoc C x then idx C.N x else none
  | _ => none
def cTg (C : Ctx) : Expr → Option Tgt
  | .Name x p => (cNm C (.Name x p)).map .name
  | .Tuple es _ _ => (allE (cNm C) es).map .tup
  | _ => none
def kwE (f : Expr → Option IE) : List Keyword → Option (List IE)
  | [] => some []
  | ⟨some _, e, _⟩ :: r => match f e, kwE f r with
    | some i, some is => some (i :: is)
    | _, _ => none
  | _ => none
def partE (f : Expr → Option IE) : Expr → Option IE
  | .Constant (.str y) _ _ => some (.const (.str y))
  | .FormattedValue e (-1) none _ => f e
  | _ => none
section
variable (T : CT) (f : Ctx → Expr → Option IE) (t : Ctx → Expr → Option IT)
def cIt (C : Ctx) (tg e : Expr) : Option It := match e with
  | .Call (.Name x _) args [] _ => if isGl C x && T.bl.contains x && noStars args then
      (match args with
      | [a] => if x == "range" then (f C a).map .rng1 else if x == "enumerate" && isTup tg then (f C a).map .enum else (f C e).map .val
      | [a, b] => if x == "range" then (match f C a, f C b with
          | some i, some j => some (.rng2 i j)
          | _, _ => none) else if x == "zip" && isTup tg then (match f C a, f C b with
          | some i, some j => some (.zip2 i j)
          | _, _ => none) else (f C e).map .val
      | [a, b, c] => if x == "zip" then (match tg, f C a, f C b, f C c with
          | .Name _ _, some i, some j, some k => some (.zip3 i j k)
          | _, _, _, _ => none) else (f C e).map .val
      | _ => (f C e).map .val) else (f C e).map .val
  | e => (f C e).map .val
def cCond (C : Ctx) : List Expr → Option (Option IT)
  | [] => some none
  | [c] => (t C c).map some
  | _ => none
def cComp (C : Ctx) (elt tg iter : Expr) (ifs : List Expr) (scope : Scope) : Option IE :=
  if L2.blkC C.N C.sc scope (ownOf C.N scope) && notSet iter then
    (match cIt T f C tg iter, cTg (C.inn scope) tg, cCond t (C.inn scope) ifs, f (C.inn scope) elt with
    | some it, some g, some cond, some ie => if g.is.all fun i => ((ownOf C.N scope).map (·.2)).contains i then some (.comp ie g it cond ((ownOf C.N scope).map (·.2))) else none
    | _, _, _, _ => none) else none
def cCmp (C : Ctx) (a : Expr) (ops : List CmpOp) (cs : List Expr) : Option IE := match ops, cs with
  | [op], [b] => (match copD op, f C a, f C b with
    | some o, some i, some j => if behindInMarks op b then none else some (.cmp o i j)
    | _, _, _ => none)
  | [op, op2], [b, c] => (match copD op, copD op2, f C a, f C b, f C c with
    | some o, some o2, some i, some j, some k => if lastMarks [op, op2] [b, c] then none else some (.chain o o2 i j k)
    | _, _, _, _, _ => none)
  | _, _ => none
def cCall (C : Ctx) (x : Str) (args : List Expr) (kws : List Keyword) : Option IE :=
  if isGl C x && noStars args then
    (match T.fn.lookup x with
    | some g => (match allE (f C) args, kwE (f C) kws with
      | some is, some js => if decide (is.length + js.length = (T.pss g).length) && decide (kwNames kws = (T.pss g).drop is.length) then some (.call g (is ++ js) (idPm (T.pss g).length)) else none
      | _, _ => none)
    | none => (match T.cl.lookup x with
      | some c => (match T.ini c, allE (f C) args, kwE (f C) kws with
        | some n, some is, some js => if decide (is.length + js.length + 1 = (T.pss n).length) && decide (kwNames kws = (T.pss n).drop (is.length + 1)) then some (.make c (is ++ js) (idPm (is.length + js.length))) else none
        | _, _, _ => none)
      | none => if T.bl.contains x then
          (match kws with
          | [] => (match args with
            | [a] => if x == "str" then (f C a).map (.str_ T.strm) else
                (match bi1 x with
                | some b => (match b, a with
                  | .list, .Call (.Name r _) [n] [] _ => if r == "range" && isGl C r && T.bl.contains r && !isStar n then (f C n).map (fun i => .bi .list (.range i)) else (f C a).map (.bi .list)
                  | b, a => (f C a).map (.bi b))
                | none => none)
            | [a, b] => if x == "isinstance" then
                  (match b with
                  | .Tuple es _ _ => (match f C a, allE (cCr T C) es with
                    | some i, some cs => if cs.all fun c => T.crs.any (fun d => match c, d with | .ty m, .ty n => m == n | .own m, .own n => m == n | _, _ => false) && big cs.length then some (.isi i cs) else none
                    | _, _ => none)
                  | b => (match f C a, cCr T C b with
                    | some i, some c => if T.crs.any (fun d => match c, d with | .ty m, .ty n => m == n | .own m, .own n => m == n | _, _ => false) then some (.isi i [c]) else none
                    | _, _ => none))
                else if x == "max" then (match f C a, f C b with
                  | some i, some j => some (.bi2 .max i j)
                  | _, _ => none)
                else if x == "min" then (match f C a, f C b with
                  | some i, some j => some (.bi2 .min i j)
                  | _, _ => none) else none
            | _ => none)
          | [⟨some k, .Name fx _, _⟩] => if x == "sorted" && k == "key" && isGl C fx then (match args, T.fn.lookup fx with
            | [a], some g => if decide ((T.pss g).length = 1) then (f C a).map (.sortBy g) else none
            | _, _ => none) else none
          | _ => none) else none)) else none
/-- a lambda handed to the def that hears -/
def noParams (p : Arguments) : Bool := p.posonlyargs.isEmpty && p.args.isEmpty && p.kwonlyargs.isEmpty && p.vararg.isNone && p.kwarg.isNone && p.defaults.isEmpty && p.kw_defaults.isEmpty
def cHeard (C : Ctx) (x : Str) (params : Arguments) (body : Expr) (scope : Scope) : Option IE := if C.lam && isGl C x && LamX.lamSB C.sc scope && noParams params then (match T.hd.lookup x with
  | some (b, h) => (f ⟨C.N, scope, some scope, false⟩ body).map fun i => .heard i b h
  | none => none) else none
def attN (x : Str) : Option Nat := T.att.findIdx? (· == x)
def stepE (C : Ctx) : Expr → Option IE
  | .Constant c _ _ => (constD c).map .const
  | .Name x _ => if isVis C x then (idx C.N x).map .var else if isGl C x then (T.con.lookup x).map .const else none
  | .BinOp a op b _ => (match bopD op, f C a, f C b with
    | some o, some i, some j => some (.bin o i j)
    | _, _, _ => none)
  | .UnaryOp .USub a _ => (f C a).map .neg
  | .UnaryOp .Invert a _ => (f C a).map .inv
  | .UnaryOp .Not a _ => (f C a).map .not_
  | .BoolOp op vs _ => boolE (f C) op vs
  | .IfExp c a b _ => (match t C c, f C a, f C b with
    | some k, some i, some j => some (.ite k i j)
    | _, _, _ => none)
  | .Compare a ops cs _ => cCmp f C a ops cs
  | .Subscript a (.Slice lo hi none _) _ => (match f C a, cOpt (f C) lo, cOpt (f C) hi with
    | some i, some l, some h => some (.sl i l h)
    | _, _, _ => none)
  | .Subscript a b _ => if notSl b then (match f C a, f C b with
    | some i, some j => some (.ix i j)
    | _, _ => none) else none
  | .Tuple es _ _ => if noStars es then (allE (f C) es).map .tupl else none
  | .List es _ => if noStars es then (allE (f C) es).map .disp else none
  | .ListComp elt [⟨tg, iter, ifs, 0⟩] scope _ => cComp T f t C elt tg iter ifs scope
  | .Attribute a x _ => if baseOk a then (match f C a, attN T x with
    | some i, some k => some (.fld i k)
    | _, _ => none) else none
  | .JoinedStr (v1 :: v2 :: r) _ => (allE (partE (f C)) (v1 :: v2 :: r)).map .fstr
  | .Dict [] [] _ => some .newd
  | .Call (.Name x _) [.Lambda params body scope _] [] _ => cHeard T f C x params body scope
  | .Call (.Name x _) args kws _ => cCall T f C x args kws
  | .Call (.Attribute o m ap) args [] pos => if baseOk o && noStars args && decide (args.length < 29) && (ap.endLine == pos.line) then
      (if m == "append" || m == "insert" || m == "extend" then (match f C o, allE (f C) args, args with
        | some i, some is, _ :: _ => some (.lm (if m == "append" then .append else if m == "insert" then .insert else .extend) i is)
        | _, _, _ => none)
      else if m == "join" || m == "index" then (match f C o, allE (f C) args, args with
        | some i, some is, _ :: _ => some (.pm (if m == "join" then .join else .index) i is)
        | _, _, _ => none)
      else (match f C o, allE (f C) args, attN T m with
        | some i, some is, some k => some (.meth k i is)
        | _, _, _ => none)) else none
  | _ => none
def stepT (C : Ctx) : Expr → Option IT
  | .UnaryOp .Not a _ => (t C a).map .not_
  | .BoolOp op vs _ => boolT (t C) op vs
  | .IfExp _ _ _ _ => none
  | .Compare a ops cs _ => (cCmp f C a ops cs).map .val
  | e => (f C e).map .val
end
def cET (T : CT) : Nat → (Ctx → Expr → Option IE) × (Ctx → Expr → Option IT)
  | 0 => (fun _ _ => none, fun _ _ => none)
  | n + 1 => (stepE T (cET T n).1 (cET T n).2, stepT (cET T n).1 (cET T n).2)
def swFree : Expr → Bool
  | .ListComp _ _ _ _ => false
  | .SetComp _ _ _ _ => false
  | .DictComp _ _ _ _ _ => false
  | _ => true
theorem sw_none {e : Expr} {l : Nat} {env : PySem.Env} (h : swFree e = true) (tg : Option Expr) : swapsWith e tg l env = pure false := by
  cases e <;> first | rfl | cases h
theorem map_some {α β : Type} {o : Option α} {g : α → β} {b : β} (h : o.map g = some b) : ∃ a, o = some a ∧ b = g a := by
  cases o with
  | none => cases h
  | some a => cases h; exact ⟨a, rfl, rfl⟩
theorem idx_of {N : List Str} {x : Str} {i : Nat} (e : idx N x = some i) : N[i]? = some x := by
  unfold idx at e
  obtain ⟨h1, h2, _⟩ := List.findIdx?_eq_some_iff_getElem.mp e
  rw [List.getElem?_eq_getElem h1]
  exact congrArg some (by simpa using h2)
theorem allE_cons {α β : Type} {f : α → Option β} {a : α} {r : List α} {bs : List β} (h : allE f (a :: r) = some bs) : ∃ b br, bs = b :: br ∧ f a = some b ∧ allE f r = some br := by
  unfold allE at h
  split at h
  · rename_i b br h1 h2
    cases h
    exact ⟨b, br, rfl, h1, h2⟩
  · cases h
theorem allE_len {α β : Type} {f : α → Option β} : ∀ {l : List α} {bs : List β}, allE f l = some bs → bs.length = l.length
  | [], bs, h => by cases h; rfl
  | a :: r, bs, h => by
    obtain ⟨b, br, rfl, _, h2⟩ := allE_cons h
    simp only [List.length_cons, allE_len h2]
end Z

set_option linter.all false
set_option maxRecDepth 100000
set_option maxHeartbeats 4000000
namespace Z
open PySem PySem.Spec PyProof.Rows
open L2 (V Hp HO Key VK XK TE TT TA TS TG TGs TO TI WX Cx Inv Ends SqL SqT Same upd upd_same upd_ne ne_of ne_of_none OpR UnR CallR R2 Dp DpAll IxR SlR PE PT PW PA PS PSs PG PGs PI PO PTs PK FnOk Room Vals RelV Sp EP thn MtR)
open L2 (Takes XE BlkOk Env0)
/-- what is known of the own exceptions -/
structure ExqOk (K : PySem.W.Frag) (NM : Nm) (P : Prog) : Prop where
  is : ∀ c, excQ P c = true → L2.ExcC K (NM.cls c)
  xf : ∀ c, excQ P c = true → L2.XfC K (NM.cls c)
  no : ∀ c q k, P.clss[c]? = some q → excQ P c = true → k ∈ q.flds → PySem.W.findIn K (.ref (NM.cls c)) (NM.att k) = some none
  one : ∀ c k, excQ P c = true → k < P.clss.length → PySem.W.kitOne K (.ref (NM.cls c)) (.ref (NM.cls k)) = some (belowC P c [k])
  exm : ∀ c k, excQ P c = true → k < P.clss.length → belowC P c [k] = true → PySem.W.exmOne K (.ref (NM.cls c)) (.ref (NM.cls k)) = some true
section
variable {X : Cx} {NM : Nm} {TB : Hp → Prop} {P : Prog}
theorem vals_refs {NM : Nm} : ∀ {ks : List Nat} {us : List Value}, Vals (ks.map fun k => V.ref (NM.cls k)) us → us = ks.map fun k => Value.ref (NM.cls k)
  | [], _, .nil => rfl
  | k :: ks, _, .cons h r => by rw [List.map_cons, vals_refs r]; rw [show _ = Value.ref (NM.cls k) from h]
/-- isinstance of the exception that the suite holds -/
def rIsX (K : PySem.W.Frag) (NM : Nm) (c : Nat) (a dd : Addr) (gs : List (Str × V)) : List V → Hp → VK → Prop := fun xs H Q => H dd = some (.xd gs) ∧
  ((∃ k b, xs = [.ref a, .ref (NM.cls k)] ∧ PySem.W.kitOne K (.ref (NM.cls c)) (.ref (NM.cls k)) = some b ∧ Q (.bl b) H) ∨
    ∃ (tp : Addr) (ks : List Nat) (b : Bool), xs = [.ref a, .ref tp] ∧ H tp = some (.tup (ks.map fun k => V.ref (NM.cls k))) ∧ PySem.W.kitAny K (.ref (NM.cls c)) (ks.map fun k => Value.ref (NM.cls k)) = some b ∧ Q (.bl b) H)
theorem call_isX {a dd : Addr} {c : Nat} {oe : Obj} {pn : List (Addr × Obj)} {gs : List (Str × V)} (C : L2.ExcC X.K (NM.cls c)) (hz : L2.Zc (.ref (NM.cls c)) (some dd) oe) (hf : ∃ vs, oe.data = .fields vs) :
    CallR (X.suite a ((a, oe) :: pn)) (.builtin "isinstance") (rIsX X.K NM c a dd gs) := by
  intro pins s σ H xs us Q I r ⟨hdd, h⟩
  obtain ⟨hget, _⟩ := I.pin (a, oe) (List.mem_append.mpr (.inl List.mem_cons_self))
  obtain ⟨vs, hv⟩ := hf
  have hx : L2.ObjOk X.prog X.w H s.heap dd (.xd gs) := I.hok dd _ hdd
  obtain ⟨mA, hns, hr⟩ := hx
  obtain ⟨od, ho, hl⟩ := L2.lookIn_ns hns
  have J : PySem.W.InstAt s.heap a oe (NM.cls c) (some od) := ⟨hget, hz.1, by unfold PySem.W.notCls; rw [hv] <;> rfl, by rw [hz.2]; exact ho⟩
  have hcl : (PySem.W.clsIn X.K (NM.cls c)).isSome = true := by
    obtain ⟨cd, hc, _⟩ := PySem.W.any_some C.hd
    rw [hc]; rfl
  have Z := PySem.W.kitx_exc (x := a) (ox := oe) (od := some od) hcl C.hg C.hk C.hs C.ha C.hn C.ht C.hm
  rcases h with ⟨k, b, rfl, e, q⟩ | ⟨tp, ks, b, rfl, htp, e, q⟩
  · cases r with
    | cons rx rr =>
      cases rr with
      | cons rt rr =>
        cases rr
        cases rx
        cases rt
        exact PySem.W.kia_one Z I.kIn J e (fun z => nomatch z) fun tk => ⟨.bl b, H, I.kept (t' := tk) fun _ _ z => z, rfl, q⟩
  · cases r with
    | cons rx rr =>
      cases rr with
      | cons rt rr =>
        cases rr
        cases rx
        cases rt
        obtain ⟨_, its, rv, o, ho', hc', n, hd'⟩ := I.hok tp _ htp
        have ei := vals_refs rv
        obtain ⟨oc, odd, oda, osl⟩ := o
        dsimp only at hc' hd'
        subst hc' hd'
        rw [ei] at ho'
        exact PySem.W.kia_tup Z I.kIn J ho' e (fun z => nomatch z) fun tk => ⟨.bl b, H, I.kept (t' := tk) fun _ _ z => z, rfl, q⟩
end
section
variable (T : CT)
/-- a test of the error's class -/
def cHt (C : Ctx) (er : Str) : Expr → Option (List Nat)
  | .Call (.Name f _) [.Name x _, b] [] _ => if f == "isinstance" && isGl C f && T.bl.contains f && x == er then
      (match b with
      | .Name y _ => if isGl C y then (T.cl.lookup y).map ([·]) else none
      | .Tuple es _ _ => if big es.length then allE (fun e => match e with
        | .Name y _ => if isGl C y then T.cl.lookup y else none
        | _ => none) es else none
      | _ => none) else none
  | _ => none
/-- the value of an expression of the suite -/
def cHe (C : Ctx) (er : Str) : Nat → Expr → HE
  | 0, _ => .no
  | n + 1, e => match e with
    | .Constant .none _ _ => .non
    | .Constant (.str x) _ _ => .str x
    | .Tuple es _ _ => if noStars es && big es.length then .tup (es.map (cHe C er n)) else .no
    | .IfExp c a b _ => (match cHt T C er c with
      | some cs => .ite cs (cHe C er n a) (cHe C er n b)
      | none => .no)
    | .Attribute (.Name x _) f _ => if x == er then (match attN T f with
      | some k => .fld k
      | none => .no) else .no
    | _ => .no
end
section
variable {X : Cx} {T : CT} {NM : Nm} {TB : Hp → Prop} {P : Prog} {C : Ctx} {er : Str} {i c : Nat} {a dd : Addr} {gs : List (Str × V)} {fs : List (Nat × Dat)} {oe : Obj} {pn : List (Addr × Obj)}
def tHe (K : PySem.W.Frag) (NM : Nm) (TB : Hp → Prop) (P : Prog) (i c : Nat) (a dd : Addr) (gs : List (Str × V)) (fs : List (Nat × Dat)) (h : HE) : TE := fun σ H Q => ∃ G st, Rp K NM TB G H st ∧ σ[i]? = some (some (.ref a)) ∧ H dd = some (.xd gs) ∧ RepF K NM G.F gs fs ∧
  ∃ r, evH P c fs h = some r ∧ ∀ v H' G', Ext G st G' st → Rp K NM TB G' H' st → H' dd = some (.xd gs) → RepV K NM G'.F v r → Q v H'
def tHes (K : PySem.W.Frag) (NM : Nm) (TB : Hp → Prop) (P : Prog) (i c : Nat) (a dd : Addr) (gs : List (Str × V)) (fs : List (Nat × Dat)) (h : List HE) : TA := fun σ H Q => ∃ G st, Rp K NM TB G H st ∧ σ[i]? = some (some (.ref a)) ∧ H dd = some (.xd gs) ∧ RepF K NM G.F gs fs ∧
  ∃ r, evHs P c fs h = some r ∧ ∀ v H' G', Ext G st G' st → Rp K NM TB G' H' st → H' dd = some (.xd gs) → RepVs K NM G'.F v r → Q v H'
/-- what is known within the suite -/
structure SuT (T : CT) (NM : Nm) (TB : Hp → Prop) (P : Prog) (C : Ctx) (er : Str) (i c : Nat) (dd : Addr) (oe : Obj) (X : Cx) : Prop where
  tp : TbP TB
  ex : ExqOk X.K NM P
  exc : excQ P c = true
  hz : L2.Zc (.ref (NM.cls c)) (some dd) oe
  hf : ∃ vs, oe.data = .fields vs
  sc : X.env.scope = C.sc
  cl : ∀ x c, T.cl.lookup x = some c → X.mg x = some (.ref (NM.cls c)) ∧ c < P.clss.length
  bl : ∀ x ∈ T.bl, X.mg x = none
  att : ∀ k s, T.att[k]? = some s → NM.att k = s
  N : X.N[i]? = some er
  loc : X.env.scope.names.lookup er = some .local
  db : (er == ("__debug__" : Str)) = false
  cd : (er == ("__classdict__" : Str)) = false
theorem SuT.var (S : SuT T NM TB P C er i c dd oe X) {p : Pos} : PE (X.suite a ((a, oe) :: pn)) (.Name er p) (L2.tVar i) := L2.pe_var S.N (.inl S.loc) S.db S.cd
theorem SuT.gl (S : SuT T NM TB P C er i c dd oe X) {x : Str} (h : isGl C x = true) : L2.Gl (X.suite a ((a, oe) :: pn)) x ∧ (x == ("__debug__" : Str)) = false := by
  unfold isGl at h
  rw [Bool.and_eq_true, decide_eq_true_eq, Bool.not_eq_true'] at h
  exact ⟨by show X.env.scope.names.lookup x = _; rw [S.sc]; exact h.1, h.2⟩
theorem kit_any' {K : PySem.W.Frag} {t : Value} {f : Nat → Bool} : ∀ {cs : List Nat}, (∀ k ∈ cs, PySem.W.kitOne K t (.ref (NM.cls k)) = some (f k)) → PySem.W.kitAny K t (cs.map fun k => Value.ref (NM.cls k)) = some (cs.any f)
  | [], _ => rfl
  | k :: cs, h => by
    have h1 := h k List.mem_cons_self
    have ih := kit_any' (cs := cs) fun k' m => h k' (List.mem_cons_of_mem _ m)
    show (match PySem.W.kitOne K t (.ref (NM.cls k)) with
      | some true => some true
      | some false => PySem.W.kitAny K t (cs.map fun k => Value.ref (NM.cls k))
      | none => none) = _
    rw [h1, List.any_cons]
    cases f k with
    | true => rfl
    | false => rw [Bool.false_or]; exact ih
theorem evHs_len {P : Prog} {c : Nat} {fs : List (Nat × Dat)} : ∀ {l : List HE} {r : List Dat}, evHs P c fs l = some r → r.length = l.length
  | [], r, h => by cases h; rfl
  | x :: l, r, h => by
    have h : (match evH P c fs x, evHs P c fs l with
      | some d, some ds => some (d :: ds)
      | _, _ => none) = some r := h
    split at h
    · rename_i d ds h1 h2
      cases h
      exact congrArg (· + 1) (evHs_len h2)
    · cases h
theorem below_any {P : Prog} {c : Nat} {cs : List Nat} : belowC P c cs = cs.any fun k => belowC P c [k] := by
  unfold belowC
  cases P.clss[c]? with
  | none => simp
  | some q => simp
theorem he_no {e : Expr} : PE X e (tHe X.K NM TB P i c a dd gs fs .no) := ⟨fun pins s σ H Q I ⟨_, _, _, _, _, _, r, hr, _⟩ => by cases hr⟩
theorem clsN_pe (S : SuT T NM TB P C er i c dd oe X) {y : Str} {p : Pos} {k : Nat} (h : isGl C y = true) (hk : T.cl.lookup y = some k) : PE (X.suite a ((a, oe) :: pn)) (.Name y p) (L2.tC (.ref (NM.cls k))) := by
  obtain ⟨g1, g2⟩ := S.gl (a := a) (pn := pn) h
  exact L2.pe_glob g1 (S.cl y k hk).1 rfl g2
theorem clsT_pa (S : SuT T NM TB P C er i c dd oe X) : ∀ {es : List Expr} {ks : List Nat}, allE (fun e => match e with
        | .Name y _ => if isGl C y then T.cl.lookup y else none
        | _ => none) es = some ks → PA (X.suite a ((a, oe) :: pn)) es (fun σ H Q => Q (ks.map fun k => V.ref (NM.cls k)) H) ∧ (∀ k ∈ ks, k < P.clss.length) ∧ noStars es = true
  | [], ks, h => by cases h; exact ⟨PA.imp L2.pa_nil fun σ H Q h => h, fun k m => absurd m (by simp), rfl⟩
  | e :: es, ks, h => by
    unfold allE at h
    split at h
    · rename_i k ks' h1 h2
      cases h
      split at h1
      · rename_i y p
        by_cases q : isGl C y = true
        · rw [if_pos q] at h1
          obtain ⟨k1, k2, k3⟩ := clsT_pa S h2
          refine ⟨PA.imp (L2.pa_cons (clsN_pe S q h1) k1 rfl) fun σ H Q q => q, fun k' m => ?_, by rw [← k3]; rfl⟩
          rcases List.mem_cons.mp m with z | z
          · rw [z]; exact (S.cl y k h1).2
          · exact k2 k' z
        · rw [if_neg q] at h1; cases h1
      · cases h1
    · cases h
theorem ht_ok (S : SuT T NM TB P C er i c dd oe X) {e : Expr} {cs : List Nat} (h : cHt T C er e = some cs) :
    PT (X.suite a ((a, oe) :: pn)) e (fun σ H Q => ∃ G st, Rp X.K NM TB G H st ∧ σ[i]? = some (some (.ref a)) ∧ H dd = some (.xd gs) ∧ ∀ H' G', Ext G st G' st → Rp X.K NM TB G' H' st → H' dd = some (.xd gs) → Q (belowC P c cs) H') := by
  unfold cHt at h
  split at h
  · rename_i f p1 x p2 b p3
    by_cases q : (f == "isinstance" && isGl C f && T.bl.contains f && x == er) = true
    · rw [if_pos q] at h
      simp only [Bool.and_eq_true, beq_iff_eq] at q
      obtain ⟨⟨⟨q1, q2⟩, q3⟩, q4⟩ := q
      subst q1 q4
      obtain ⟨g1, g2⟩ := S.gl (a := a) (pn := pn) q2
      have hm : X.mg "isinstance" = none := S.bl _ (by simpa using q3)
      have call := call_isX (pn := pn) (gs := gs) (a := a) (S.ex.is c S.exc) S.hz S.hf
      split at h
      · rename_i y p4
        by_cases q5 : isGl C y = true
        · rw [if_pos q5] at h
          obtain ⟨k, hk, rfl⟩ := map_some h
          refine PT.imp (L2.pt_val (L2.pe_callB call g1 hm (by first | exact PyProof.Rows.boot_isinstance | rfl) (L2.pa_cons S.var (L2.pa_cons (clsN_pe S q5 hk) L2.pa_nil rfl) rfl) (by decide) (by decide) rfl rfl) (fun _ => rfl)) fun σ H Q ⟨G, st, hR, hv, hd, k1⟩ => ?_
          exact ⟨_, hv, hd, .inl ⟨k, _, rfl, S.ex.one c k S.exc (S.cl y k hk).2, _, rfl, k1 H G .refl hR hd⟩⟩
        · rw [if_neg q5] at h; cases h
      · rename_i es kk p4
        by_cases hb : big es.length = true
        · rw [if_pos hb] at h
          obtain ⟨k1, k2, k3⟩ := clsT_pa (a := a) (pn := pn) S h
          refine PT.imp (L2.pt_val (L2.pe_callB call g1 hm (by first | exact PyProof.Rows.boot_isinstance | rfl) (L2.pa_cons S.var (L2.pa_cons (L2.pe_tup k1) L2.pa_nil rfl) rfl) (by decide) (by decide) rfl rfl) (fun _ => rfl)) fun σ H Q ⟨G, st, hR, hv, hd, kk⟩ => ?_
          have hlen : cs.length = es.length := allE_len h
          refine ⟨_, hv, by rw [List.length_map, hlen]; exact Nat.le_of_ble_eq_true hb, fun p hp => ?_⟩
          have hd' : (upd H p (.tup (cs.map fun k => V.ref (NM.cls k)))) dd = some (.xd gs) := by rw [upd_ne (ne_of_none hd hp)]; exact hd
          have e : PySem.W.kitAny X.K (.ref (NM.cls c)) (cs.map fun k => Value.ref (NM.cls k)) = some (belowC P c cs) := by
            rw [below_any]
            exact kit_any' fun k m => S.ex.one c k S.exc (k2 k m)
          exact ⟨hd', .inr ⟨p, cs, _, rfl, upd_same, e, _, rfl, kk _ G .refl (hR.grow S.tp (same_upd hp)) hd'⟩⟩
        · rw [if_neg hb] at h; cases h
      · cases h
    · rw [if_neg q] at h; cases h
  · cases h
theorem he_ok (S : SuT T NM TB P C er i c dd oe X) : ∀ n e, PE (X.suite a ((a, oe) :: pn)) e (tHe X.K NM TB P i c a dd gs fs (cHe T C er n e))
  | 0, e => he_no
  | n + 1, e => by
    unfold cHe
    split
    · exact PE.imp L2.pe_non fun σ H Q ⟨G, st, hR, _, hd, _, r, hr, k⟩ => by cases hr; exact k _ H G .refl hR hd .non
    · exact PE.imp L2.pe_str fun σ H Q ⟨G, st, hR, _, hd, _, r, hr, k⟩ => by cases hr; exact k _ H G .refl hR hd (.str _)
    · rename_i es kk p
      by_cases q : (noStars es && big es.length) = true
      · rw [if_pos q]
        rw [Bool.and_eq_true] at q
        have pa : ∀ es : List Expr, noStars es = true → PA (X.suite a ((a, oe) :: pn)) es (tHes X.K NM TB P i c a dd gs fs (es.map (cHe T C er n))) := fun es => by
          induction es with
          | nil => exact fun _ => PA.imp L2.pa_nil fun σ H Q ⟨G, st, hR, _, hd, _, r, hr, k⟩ => by cases hr; exact k _ H G .refl hR hd .nil
          | cons e es ih =>
            intro ns
            obtain ⟨n1, n2⟩ := noStars_cons ns
            refine PA.imp (L2.pa_cons (he_ok S n e) (ih n2) (star_cons n1)) fun σ H Q ⟨G, st, hR, hv, hd, hf, r, hr, k⟩ => ?_
            have hr : (match evH P c fs (cHe T C er n e), evHs P c fs (es.map (cHe T C er n)) with
              | some d, some ds => some (d :: ds)
              | _, _ => none) = some r := hr
            cases h1 : evH P c fs (cHe T C er n e) with
            | none => rw [h1] at hr; cases hr
            | some d =>
              cases h2 : evHs P c fs (es.map (cHe T C er n)) with
              | none => rw [h1, h2] at hr; cases hr
              | some ds =>
                rw [h1, h2] at hr
                cases hr
                refine ⟨G, st, hR, hv, hd, hf, d, h1, fun v H1 G1 e1 r1 hd1 x1 => ⟨G1, st, r1, hv, hd1, hf.mono e1.sub, ds, h2, fun vs H2 G2 e2 r2 hd2 x2 => ?_⟩⟩
                exact k _ H2 G2 (e1.trans e2) r2 hd2 (.cons (x1.mono e2.sub) x2)
        refine PE.imp (L2.pe_tup (pa es q.1)) fun σ H Q ⟨G, st, hR, hv, hd, hf, r, hr, k⟩ => ?_
        have hr : (evHs P c fs (es.map (cHe T C er n))).map .tup = some r := hr
        obtain ⟨ds, h1, rfl⟩ := map_some hr
        refine ⟨G, st, hR, hv, hd, hf, ds, h1, fun vs H1 G1 e1 r1 hd1 x1 => ⟨?_, fun p hp => ?_⟩⟩
        · rw [x1.length]
          have : ds.length = es.length := by rw [evHs_len h1, List.length_map]
          rw [this]
          exact Nat.le_of_ble_eq_true q.2
        · obtain ⟨G2, e2, r2, x2⟩ := lay_tup S.tp r1 hp x1
          exact k _ _ G2 (e1.trans e2) r2 (by rw [upd_ne (ne_of_none hd1 hp)]; exact hd1) x2
      · rw [if_neg q]; exact he_no
    · rename_i ce ae be p
      split
      · rename_i cs hcs
        · refine PE.imp (L2.pe_ifExp (ht_ok (gs := gs) S hcs) (he_ok S n ae) (he_ok S n be)) fun σ H Q ⟨G, st, hR, hv, hd, hf, r, hr, k⟩ => ?_
          refine ⟨G, st, hR, hv, hd, fun H1 G1 e1 r1 hd1 => ?_⟩
          show if belowC P c cs = true then _ else _
          have hr : (if belowC P c cs = true then evH P c fs (cHe T C er n ae) else evH P c fs (cHe T C er n be)) = some r := hr
          by_cases q : belowC P c cs = true
          · rw [if_pos q] at hr ⊢
            exact ⟨G1, st, r1, hv, hd1, hf.mono e1.sub, r, hr, fun v H2 G2 e2 => k v H2 G2 (e1.trans e2)⟩
          · rw [if_neg q] at hr ⊢
            exact ⟨G1, st, r1, hv, hd1, hf.mono e1.sub, r, hr, fun v H2 G2 e2 => k v H2 G2 (e1.trans e2)⟩
      · exact he_no
    · rename_i x p1 f p2
      by_cases q : (x == er) = true
      · rw [if_pos q]
        have q : x = er := by simpa using q
        subst q
        split
        · rename_i k hk
          by_cases hq : hasFld P c k = true
          · have hfk : f = NM.att k := by
              unfold attN at hk
              obtain ⟨h1, h2, _⟩ := List.findIdx?_eq_some_iff_getElem.mp hk
              have e : T.att[k]? = some f := by
                rw [List.getElem?_eq_getElem h1]
                exact congrArg some (by simpa using h2)
              exact (S.att k f e).symm
            subst hfk
            have hno : PySem.W.findIn X.K (.ref (NM.cls c)) (NM.att k) = some none := by
              unfold hasFld at hq
              cases z : P.clss[c]? with
              | none => rw [z] at hq; cases hq
              | some q => rw [z] at hq; exact S.ex.no c q k z S.exc (by simpa using hq)
            refine PE.imp (L2.pe_xf (S.ex.xf c S.exc) hno S.hz S.hf S.var rfl) fun σ H Q ⟨G, st, hR, hv, hd, hf, r, hr, k1⟩ => ?_
            have hr : (if hasFld P c k = true then fs.lookup k else none) = some r := hr
            rw [if_pos hq] at hr
            have hl := RepF.lookup (k := k) hf
            rw [hr] at hl
            obtain ⟨v, hgv, rv⟩ := hl
            exact ⟨_, hv, rfl, rfl, dd, gs, v, rfl, hd, hgv, k1 v H G .refl hR hd rv⟩
          · refine ⟨fun pins s σ H Q I ⟨_, _, _, _, _, _, r, hr, _⟩ => ?_⟩
            have hr : (if hasFld P c k = true then fs.lookup k else none) = some r := hr
            rw [if_neg hq] at hr
            cases hr
        · exact he_no
      · rw [if_neg q]; exact he_no
    · exact he_no
/-- .. the statements: hv, the name that keeps what is told -/
def constH : HE → Option Dat
  | .non => some .non
  | .str x => some (.str x)
  | .tup [.str x, .non] => some (.tup [.str x, .non])
  | _ => none
theorem constH_ok {h : HE} {r : Dat} (e : constH h = some r) : evH P c fs h = some r := by
  unfold constH at e
  split at e
  · cases e; rfl
  · cases e; rfl
  · cases e; rfl
  · cases e
def cIf (T : CT) (C : Ctx) (er hv : Str) (h0 : HE) : Nat → Stmt → Option HE
  | 0, _ => none
  | n + 1, s => match s with
    | .If t [.Assign [.Name x _] e _] orelse _ => if x == hv && swFree e then (match cHt T C er t with
      | some cs => (match orelse with
        | [] => some (.ite cs (cHe T C er n e) h0)
        | [o] => (match cIf T C er hv h0 n o with
          | some ho => some (.ite cs (cHe T C er n e) ho)
          | none => none)
        | _ => none)
      | none => none) else none
    | _ => none
def cSu (T : CT) (C : Ctx) (er hv : Str) (n : Nat) : List Stmt → Option HE
  | [.Assign [.Name x _] e _] => if x == hv && swFree e then some (cHe T C er n e) else none
  | [.Assign [.Name x _] e _, s] => if x == hv && swFree e && (constH (cHe T C er n e)).isSome then cIf T C er hv (cHe T C er n e) n s else none
  | _ => none
theorem PS.imp' {s : Stmt} {t t' : TS} (h : PS X s t) (i : ∀ D σ H, t' D σ H → t D σ H) : PS X s t' := ⟨fun pins st σ H D I q => h.run pins st σ H D I (i D σ H q)⟩
def tCh (K : PySem.W.Frag) (NM : Nm) (TB : Hp → Prop) (P : Prog) (i j c : Nat) (a dd : Addr) (gs : List (Str × V)) (fs : List (Nat × Dat)) (r0 : Dat) (h : HE) : TS := fun D σ H => ∃ G st, Rp K NM TB G H st ∧ σ[i]? = some (some (.ref a)) ∧ H dd = some (.xd gs) ∧ RepF K NM G.F gs fs ∧ j < σ.length ∧
  (∃ v0, σ[j]? = some (some v0) ∧ RepV K NM G.F v0 r0) ∧ ∃ r, evH P c fs h = some r ∧ ∀ σ' v H' G', Ext G st G' st → Rp K NM TB G' H' st → σ'[j]? = some (some v) → RepV K NM G'.F v r → D.nx σ' H'
theorem asg_ok {j : Nat} {hv : Str} (S : SuT T NM TB P C er i c dd oe X) (nd : X.N.Nodup) (hj : X.N[j]? = some hv) (lj : X.env.scope.names.lookup hv = some .local) {e : Expr} {p p' : Pos} (n : Nat) (sw : swFree e = true) :
    PS (X.suite a ((a, oe) :: pn)) (.Assign [.Name hv p'] e p) (L2.tAsg (tHe X.K NM TB P i c a dd gs fs (cHe T C er n e)) (L2.gName j)) :=
  L2.ps_set nd hj (.inl lj) (he_ok S n e) (sw_none sw _) (.inr lj)
theorem chain_ok {j : Nat} {hv : Str} {h0 : HE} {r0 : Dat} (S : SuT T NM TB P C er i c dd oe X) (nd : X.N.Nodup) (hj : X.N[j]? = some hv) (lj : X.env.scope.names.lookup hv = some .local) (hij : i ≠ j) (e0 : constH h0 = some r0) :
    ∀ n s h, cIf T C er hv h0 n s = some h → PS (X.suite a ((a, oe) :: pn)) s (tCh X.K NM TB P i j c a dd gs fs r0 h)
  | 0, _, _, h => by cases h
  | n + 1, s, h, hh => by
    unfold cIf at hh
    split at hh
    · rename_i t x p1 e p2 orelse p3
      by_cases q : (x == hv && swFree e) = true
      · rw [if_pos q] at hh
        simp only [Bool.and_eq_true, beq_iff_eq] at q
        obtain ⟨q1, q2⟩ := q
        subst q1
        have set_nx : ∀ {D : Ends} {σ : L2.St} {H : Hp} {G : Gw} {st : St} {r : Dat}, Rp X.K NM TB G H st → σ[i]? = some (some (.ref a)) → H dd = some (.xd gs) → RepF X.K NM G.F gs fs → j < σ.length → evH P c fs (cHe T C er n e) = some r →
            (∀ σ' v H' G', Ext G st G' st → Rp X.K NM TB G' H' st → σ'[j]? = some (some v) → RepV X.K NM G'.F v r → D.nx σ' H') → L2.tAsg (tHe X.K NM TB P i c a dd gs fs (cHe T C er n e)) (L2.gName j) D σ H :=
          fun {D σ H G st r} hR hv hd hf hl hr k => ⟨G, st, hR, hv, hd, hf, r, hr, fun v H1 G1 e1 r1 _ x1 => k _ v H1 G1 e1 r1 (List.getElem?_set_self hl) x1⟩
        split at hh
        · rename_i cs hcs
          split at hh
          · cases hh
            refine PS.imp' (L2.ps_if (ht_ok (gs := gs) S hcs) (L2.pss_one (asg_ok (gs := gs) (fs := fs) S nd hj lj n q2)) L2.pss_nil) fun D σ H ⟨G, st, hR, hv, hd, hf, hl, ⟨v0, hv0, x0⟩, r, hr, k⟩ => ?_
            refine ⟨G, st, hR, hv, hd, fun H1 G1 e1 r1 hd1 => ?_⟩
            show if belowC P c cs = true then _ else _
            have hr : (if belowC P c cs = true then evH P c fs (cHe T C er n e) else evH P c fs h0) = some r := hr
            by_cases q : belowC P c cs = true
            · rw [if_pos q] at hr ⊢
              exact set_nx r1 hv hd1 (hf.mono e1.sub) hl hr fun σ' v H2 G2 e2 => k σ' v H2 G2 (e1.trans e2)
            · rw [if_neg q] at hr ⊢
              rw [constH_ok e0] at hr
              cases hr
              exact k σ v0 H1 G1 e1 r1 hv0 (x0.mono e1.sub)
          · rename_i o
            split at hh
            · rename_i ho hho
              cases hh
              refine PS.imp' (L2.ps_if (ht_ok (gs := gs) S hcs) (L2.pss_one (asg_ok (gs := gs) (fs := fs) S nd hj lj n q2)) (L2.pss_one (chain_ok S nd hj lj hij e0 n o ho hho))) fun D σ H ⟨G, st, hR, hv, hd, hf, hl, ⟨v0, hv0, x0⟩, r, hr, k⟩ => ?_
              refine ⟨G, st, hR, hv, hd, fun H1 G1 e1 r1 hd1 => ?_⟩
              show if belowC P c cs = true then _ else _
              have hr : (if belowC P c cs = true then evH P c fs (cHe T C er n e) else evH P c fs ho) = some r := hr
              by_cases q : belowC P c cs = true
              · rw [if_pos q] at hr ⊢
                exact set_nx r1 hv hd1 (hf.mono e1.sub) hl hr fun σ' v H2 G2 e2 => k σ' v H2 G2 (e1.trans e2)
              · rw [if_neg q] at hr ⊢
                exact ⟨G1, st, r1, hv, hd1, hf.mono e1.sub, hl, ⟨v0, hv0, x0.mono e1.sub⟩, r, hr, fun σ' v H2 G2 e2 => k σ' v H2 G2 (e1.trans e2)⟩
            · cases hh
          · cases hh
        · cases hh
      · rw [if_neg q] at hh; cases hh
    · cases hh
def tSu (K : PySem.W.Frag) (NM : Nm) (TB : Hp → Prop) (P : Prog) (i j c : Nat) (a dd : Addr) (gs : List (Str × V)) (fs : List (Nat × Dat)) (h : HE) : TS := fun D σ H => ∃ G st, Rp K NM TB G H st ∧ σ[i]? = some (some (.ref a)) ∧ H dd = some (.xd gs) ∧ RepF K NM G.F gs fs ∧ j < σ.length ∧
  ∃ r, evH P c fs h = some r ∧ ∀ σ' v H' G', Ext G st G' st → Rp K NM TB G' H' st → σ'[j]? = some (some v) → RepV K NM G'.F v r → D.nx σ' H'
theorem suite_ok {j : Nat} {hv : Str} (S : SuT T NM TB P C er i c dd oe X) (nd : X.N.Nodup) (hj : X.N[j]? = some hv) (lj : X.env.scope.names.lookup hv = some .local) (hij : i ≠ j) {n : Nat} {ss : List Stmt} {h : HE} (hh : cSu T C er hv n ss = some h) :
    PSs (X.suite a ((a, oe) :: pn)) ss (tSu X.K NM TB P i j c a dd gs fs h) := by
  unfold cSu at hh
  split at hh
  · rename_i x p1 e p2
    by_cases q : (x == hv && swFree e) = true
    · rw [if_pos q] at hh
      cases hh
      simp only [Bool.and_eq_true, beq_iff_eq] at q
      obtain ⟨q1, q2⟩ := q
      subst q1
      exact PSs.imp (L2.pss_one (asg_ok (gs := gs) (fs := fs) S nd hj lj n q2)) fun D σ H ⟨G, st, hR, hv, hd, hf, hl, r, hr, k⟩ => ⟨G, st, hR, hv, hd, hf, r, hr, fun v H1 G1 e1 r1 _ x1 => k _ v H1 G1 e1 r1 (List.getElem?_set_self hl) x1⟩
    · rw [if_neg q] at hh; cases hh
  · rename_i x p1 e p2 s
    by_cases q : (x == hv && swFree e && (constH (cHe T C er n e)).isSome) = true
    · rw [if_pos q] at hh
      simp only [Bool.and_eq_true, beq_iff_eq] at q
      obtain ⟨⟨q1, q2⟩, q3⟩ := q
      subst q1
      obtain ⟨r0, e0⟩ := Option.isSome_iff_exists.mp q3
      refine PSs.imp (L2.pss_cons (asg_ok (gs := gs) (fs := fs) S nd hj lj n q2) (L2.pss_one (chain_ok (gs := gs) (fs := fs) S nd hj lj hij e0 n s h hh))) fun D σ H ⟨G, st, hR, hv, hd, hf, hl, r, hr, k⟩ => ?_
      refine ⟨G, st, hR, hv, hd, hf, r0, constH_ok e0, fun v H1 G1 e1 r1 hd1 x1 => ?_⟩
      exact ⟨G1, st, r1, by rw [List.getElem?_set_ne (Ne.symm hij)]; exact hv, hd1, hf.mono e1.sub, by rw [List.length_set]; exact hl, ⟨v, List.getElem?_set_self hl, x1⟩, r, hr, fun σ' v H2 G2 e2 => k σ' v H2 G2 (e1.trans e2)⟩
    · rw [if_neg q] at hh; cases hh
  · cases hh
end
end Z

set_option linter.all false
set_option maxRecDepth 100000
set_option maxHeartbeats 4000000
namespace Z
open PySem PySem.Spec PyProof.Rows
open L2 (V Hp HO Key VK XK TE TT TA TS TG TGs TO TI WX Cx Inv Ends SqL SqT Same upd upd_same upd_ne ne_of ne_of_none OpR UnR CallR R2 Dp DpAll IxR SlR PE PT PW PA PS PSs PG PGs PI PO PTs PK FnOk Room Vals RelV Sp EP thn MtR)
open L2 (Takes XE BlkOk Env0)
open LamX (GivesTo CodeO Tabs ExtN TabB LamS lamSB lamCx tLam)
/-- the body of the def that hears: its names' places, the base class, what is told -/
def cHd (T : CT) (C : Ctx) (aN : Str) (n : Nat) : List Stmt → Option (Nat × HE)
  | [.Assign [.Name hv _] (.Constant .none _ _) _, .Try [.Expr (.Call (.Name a2 _) [] [] _) _] [.ExceptHandler (some (.Name bs _)) (some er) (b0 :: suite) _] [] [] _, .Return (some (.Name hv2 _)) _] =>
    (match idx C.N hv, idx C.N er, T.cl.lookup bs, cSu T C er hv n (b0 :: suite) with
    | some j, some i, some b, some h => if a2 == aN && hv2 == hv && isGl C bs && decide (i ≠ j) && decide (j ≠ 0) && decide (C.N[0]? = some aN) && decide (C.sc.names.lookup hv = some .local) && decide (C.sc.names.lookup er = some .local) &&
        !(er == ("__debug__" : Str)) && !(er == ("__classdict__" : Str)) && !(hv == ("__debug__" : Str)) && !(hv == ("__classdict__" : Str)) then some (b, h) else none
    | _, _, _, _ => none)
  | _ => none
/-- what is wished of an error -/
def EHd (K : PySem.W.Frag) (NM : Nm) (TB : Hp → Prop) (P : Prog) (b : Nat) (h : HE) (Q : VK) : XK := fun cls d H' => ∃ c dd gs fs G st, cls = .ref (NM.cls c) ∧ d = some dd ∧ excQ P c = true ∧ belowC P c [b] = true ∧ Rp K NM TB G H' st ∧ H' dd = some (.xd gs) ∧ RepF K NM G.F gs fs ∧
  ∃ r, evH P c fs h = some r ∧ ∀ v H'' G', Ext G st G' st → Rp K NM TB G' H'' st → RepV K NM G'.F v r → Q v H''
def THd (K : PySem.W.Frag) (NM : Nm) (TB : Hp → Prop) (P : Prog) (b : Nat) (h : HE) : (XK → Hp → VK → Prop) → Hp → VK → Prop := fun tl H Q => ∀ (E : XK) (Q1 : VK), (∀ cls d H', EHd K NM TB P b h Q cls d H' → E cls d H') → (∀ v H', Q .non H' → Q1 v H') → tl E H Q1
section
variable {X : Cx} {T : CT} {NM : Nm} {TB : Hp → Prop} {P : Prog}
theorem heard_gives {Ng : List Str} {x aN q : Str} {sg : Scope} {g : Addr} {cdg : Value} {bg : List Stmt} {b n : Nat} {h : HE} {blk : Option Scope} {lam : Bool} (tp : TbP TB) (ex : ExqOk X.K NM P) (hcl : ∀ x c, T.cl.lookup x = some c → X.mg x = some (.ref (NM.cls c)) ∧ c < P.clss.length) (hbl : ∀ x ∈ T.bl, X.mg x = none) (hatt : ∀ k s, T.att[k]? = some s → NM.att k = s)
    (nd : Ng.Nodup) (hh : cHd T ⟨Ng, sg, blk, lam⟩ aN n bg = some (b, h)) : GivesTo X Ng x sg g cdg bg aN q (THd X.K NM TB P b h) := by
  unfold cHd at hh
  split at hh
  · rename_i hv p1 kk p2 p3 a2 p4 p5 p6 bs p7 er b0 suite p8 p9 hv2 p10 p11
    split at hh
    · rename_i j i b' h' hj hi hb hsu
      split at hh
      · rename_i cond
        cases hh
        simp only [Bool.and_eq_true, beq_iff_eq, decide_eq_true_eq, Bool.not_eq_true'] at cond
        obtain ⟨⟨⟨⟨⟨⟨⟨⟨⟨⟨⟨c1, c2⟩, c3⟩, c4⟩, c5⟩, c6⟩, c7⟩, c8⟩, c9⟩, c10⟩, c11⟩, c12⟩ := cond
        subst c1
        replace c2 := c2.symm
        subst c2
        have hj' : Ng[j]? = some hv := idx_of hj
        have hi' : Ng[i]? = some er := idx_of hi
        have hgb : sg.names.lookup bs = some .globalImplicit ∧ (bs == ("__debug__" : Str)) = false := by
          unfold isGl at c3
          rw [Bool.and_eq_true, decide_eq_true_eq, Bool.not_eq_true'] at c3
          exact c3
        intro f c' s H Q tl act hc hT
        have hlen : (L2.start Ng [V.ref f]).length = Ng.length := by
          unfold L2.start
          have : 0 < Ng.length := by
            rcases Nat.eq_zero_or_pos Ng.length with z | z
            · rw [List.getElem?_eq_none (by omega)] at c6; cases c6
            · exact z
          simp
          omega
        have h0 : (L2.start Ng [V.ref f])[0]? = some (some (V.ref f)) := by unfold L2.start; simp
        have jl : j < Ng.length := (List.getElem?_eq_some_iff.mp hj').1
        refine ⟨_, L2.pss_cons (L2.ps_set (i := j) nd hj' (.inl c7) L2.pe_non rfl (.inr c7)) (L2.pss_cons (L2.ps_try_as (X := (L2.cxOf C8.CX0 X.prog X.w X.K X.mg X.base Ng x sg g cdg X.A X.stack s H C8.E0).nox) (c := .ref (NM.cls b)) (i := i) (Wout := fun _ _ _ _ => False)
            (tb := fun W D σ H => ∃ Ech : XK, (∀ cls d σ' H', Ech cls d H' → W cls d σ' H') ∧ σ[0]? = some (some (.ref f)) ∧ H c' = some (CodeO c' q) ∧ tl Ech H fun _ H'' => D.nx σ H'')
            (ts := fun a cls d D σ H => (∃ σ0 : L2.St, σ = List.set σ0 i (some (V.ref a))) ∧ ∃ c dd gs fs G st, cls = .ref (NM.cls c) ∧ d = some dd ∧ excQ P c = true ∧ Rp X.K NM TB G H st ∧ H dd = some (.xd gs) ∧ RepF X.K NM G.F gs fs ∧ ∃ r, evH P c fs h = some r ∧
              ∀ σ' v H' G', Ext G st G' st → Rp X.K NM TB G' H' st → σ'[j]? = some (some v) → RepV X.K NM G'.F v r → D.nx σ' H')
            rfl rfl nd hi' c8 ⟨hgb.1, hgb.2, .inl (hcl bs b hb).1⟩ LamX.takes0 (fun W pn xe tk _ => ?_) (fun a oe cls d pn hz hf => ?_)) (L2.pss_one (L2.ps_ret (L2.pe_var hj' (.inl c7) c11 c12)))), ?_⟩
        · refine ⟨fun pins s' σ H' D I h' => ?_⟩
          obtain ⟨Ech, hW, h1, h2, h3⟩ := h'
          have hp := act W pn xe Ech p4 p5 tk hW
          have hq := L2.pss_one (L2.ps_expr (pos := p6) hp)
          exact hq.run pins s' σ H' D I ⟨h1, h2, h3⟩
        · refine ⟨fun pins s' σ H' D I h' => ?_⟩
          obtain ⟨⟨σ0, rfl⟩, c, dd, gs, fs, G, st, rfl, rfl, hq, hR, hd, hF, r, hr, k⟩ := h'
          have S : SuT T NM TB P ⟨Ng, sg, blk, lam⟩ er i c dd oe (L2.cxOf C8.CX0 X.prog X.w X.K X.mg X.base Ng x sg g cdg X.A X.stack s H C8.E0).nox := ⟨tp, ex, hq, hz, hf, rfl, hcl, hbl, hatt, hi', c8, c9, c10⟩
          have il : i < Ng.length := (List.getElem?_eq_some_iff.mp hi').1
          have ln : (List.set σ0 i (some (V.ref a))).length = Ng.length := I.len
          have ln0 : σ0.length = Ng.length := by rw [List.length_set] at ln; exact ln
          exact (suite_ok S nd hj' c7 c4 hsu).run pins s' _ H' D I ⟨G, st, hR, List.getElem?_set_self (by omega), hd, hF, by omega, r, hr, k⟩
        · have hs0 : ((L2.start Ng [V.ref f]).set j (some V.non))[0]? = some (some (V.ref f)) := by rw [List.getElem?_set_ne (by omega)]; exact h0
          have hsj : ((L2.start Ng [V.ref f]).set j (some V.non))[j]? = some (some V.non) := List.getElem?_set_self (by omega)
          refine ⟨EHd X.K NM TB P b h Q, fun cls d σ' H' he => ?_, hs0, hc, ?_⟩
          · obtain ⟨c, dd, gs, fs, G, st, rfl, rfl, hq, hbw, hR, hd, hF, r, hr, k⟩ := he
            refine ⟨true, ex.exm c b hq (hcl bs b hb).2 hbw, fun _ a na => ⟨⟨σ', rfl⟩, c, dd, gs, fs, G, st, rfl, rfl, hq, hR, hd, hF, r, hr, fun σ2 v H2 G2 e2 r2 hv2 x2 => ?_⟩, fun z => by cases z⟩
            exact ⟨v, by rw [List.getElem?_set_ne c4]; exact hv2, k v H2 G2 e2 r2 x2⟩
          · exact hT _ _ (fun _ _ _ z => z) fun v H' q => ⟨.non, hsj, q⟩
      · cases hh
    · cases hh
  · cases hh
end
end Z

set_option linter.all false
set_option maxRecDepth 100000
set_option maxHeartbeats 4000000
namespace Z
open PySem PySem.Spec PyProof.Rows
open L2 (V Hp HO Key VK XK TE TT TA TS TG TGs TO TI WX Cx Inv Ends SqL SqT Same upd upd_same upd_ne ne_of ne_of_none OpR UnR CallR R2 Dp DpAll IxR SlR PE PT PW PA PS PSs PG PGs PI PO PTs PK FnOk Room Vals RelV Sp EP thn MtR)
open L2 (Takes XE BlkOk Env0)
open LamX (GivesTo CodeO Tabs ExtN TabB LamS lamSB lamCx tLam)
/-- the def that hears, as it stands -/
structure HdAt (T : CT) (NM : Nm) (P : Prog) (K : PySem.W.Frag) (mg : Str → Option Value) (x : Str) (b : Nat) (h : HE) : Prop where
  at_ : ∃ g oc od osl pg bg sg kV doc pm an cdv ct Ng aN n blk, mg x = some (.ref g) ∧ PySem.W.keepIn K (.ref g) = true ∧ K.lookup g = some ⟨oc, od, .func (PySem.W.fnOf x x pg bg sg .none kV doc pm an cdv ct), osl⟩ ∧ PySem.W.codeIn K cdv x = true ∧ Plain pg [aN] ∧ L2.FnScope Ng [aN] sg ∧ Ng[0]? = some aN ∧ L2.Vis sg aN ∧
    (aN == ("__debug__" : Str)) = false ∧ (aN == ("__classdict__" : Str)) = false ∧ cHd T ⟨Ng, sg, blk, false⟩ aN n bg = some (b, h)
  ex : ExqOk K NM P
  cl : ∀ x c, T.cl.lookup x = some c → mg x = some (.ref (NM.cls c)) ∧ c < P.clss.length
/-- a def that makes lambdas: its code's table -/
def LamAt (TB : Hp → Prop) (X : Cx) : Prop := ∃ (TL : List (Addr × Str)) (c Pt : Addr), (∀ H, TB H ↔ Tabs TL H) ∧ TabB X.base X.mg c Pt ∧ X.env.code = .ref c ∧ (Pt, X.env.qual ++ "<lambda>") ∈ TL ∧ ∀ p ∈ TL, p.1 = Pt → p.2 = X.env.qual ++ "<lambda>"
section
variable {X : Cx} {T : CT} {NM : Nm} {TB : Hp → Prop} {W : WX} {P : Prog} {Φ Ψ : Fun}
theorem Rp.extN {K : PySem.W.Frag} {G : Gw} {H H1 : Hp} {st : St} (r : Rp K NM TB G H st) (e : ExtN H H1) (t : TB H1) : Rp K NM TB G H1 st := by
  refine ⟨fun a o q => e a o (r.sub a o q) fun ps z => r.nt.1 a ps (by rw [q, z]), fun i c q => (r.cells i c q).heap fun l o z => e _ o z fun ps zz => ?_, r.inj, t, fun a o q => ?_, r.nt⟩
  · have := ((r.cells i c q).live l).1
    rw [z, zz] at this
    exact this.elim
  · obtain ⟨h1, h2, h3⟩ := r.priv a o q
    exact ⟨e a o h1 fun ps z => r.nt.2 a ps (by rw [q, z]), h2, h3⟩
theorem noParams_of {p : Arguments} (h : noParams p = true) : p.posonlyargs = [] ∧ p.args = [] ∧ p.kwonlyargs = [] ∧ p.vararg = none ∧ p.kwarg = none ∧ p.defaults = [] ∧ p.kw_defaults = [] := by
  unfold noParams at h
  simp only [Bool.and_eq_true, List.isEmpty_iff, Option.isNone_iff_eq_none] at h
  obtain ⟨⟨⟨⟨⟨⟨h1, h2⟩, h3⟩, h4⟩, h5⟩, h6⟩, h7⟩ := h
  exact ⟨h1, h2, h3, h4, h5, h6, h7⟩
theorem de_heard {k b : Nat} {h : HE} {x : Str} {params : Arguments} {body : Expr} {scope : Scope} {p lpos pos : Pos} {ie : IE} (tp : TbP TB) (hbl : ∀ x ∈ T.bl, X.mg x = none) (hatt : ∀ k s, T.att[k]? = some s → NM.att k = s) (D : HdAt T NM P X.K X.mg x b h) (LA : LamAt TB X) (hr : Room (k + 2) X.A) (hg : L2.Gl X x) (hdb : (x == ("__debug__" : Str)) = false)
    (L : LamS X.env.scope scope) (np : noParams params = true) (hbody : ∀ (A : Around) (outer : List PySem.Env) (s : Shared) (H : Hp) (E : XK) (f c' : Addr), Room k (A.deeper (LamX.lamEnv X scope s.heap.objs.size f c')) → DE (lamCx X A outer s H E scope f c') NM TB (WE E) P Φ Ψ body ie) :
    DE X NM TB W P Φ Ψ (.Call (.Name x p) [.Lambda params body scope lpos] [] pos) (.heard ie b h) := by
  obtain ⟨g, oc, od, osl, pg, bg, sg, kV, doc, pm, an, cdv, ct, Ng, aN, n, blk, hm, hk, lk, hcd, hpl, hS, hN0, hva, ha1, ha2, hch⟩ := D.at_
  obtain ⟨TL, c, Pt, hTB, TBb, hcode, hmT, hu⟩ := LA
  obtain ⟨n1, n2, n3, n4, n5, n6, n7⟩ := noParams_of np
  have hb : L2.Binds X.K (PySem.W.fnOf x x pg bg sg .none kV doc pm an cdv ct) [aN] [] := L2.Binds.all fun us hu => by
    have := bind_plain (fd := PySem.W.fnOf x x pg bg sg .none kV doc pm an cdv ct) (us := us) (ws := []) (ks := []) hpl (by simp) rfl (by rw [hu]; rfl) rfl (by omega)
    rw [List.append_nil] at this
    exact this
  have hdef : defaultsOf params X.env = ([], []) := by
    unfold defaultsOf
    obtain ⟨a1, a2, a3, a4, a5, a6, a7⟩ := params
    simp only at n6 n7
    subst n6 n7
    rfl
  refine PE.imp (LamX.pe_lamcall (T := TL) (TT := THd X.K NM TB P b h) (a := aN) (k := k) (t := fun E => tD X.K NM TB (ev P Φ Ψ ie) (WE E)) hg hm hk lk hcd hb hS hN0 hva (heard_gives tp D.ex D.cl hbl hatt hS.nd hch) TBb hcode hmT hu hr L hdef (fun q cl pm cv ctv => ?_) hbody hdb ha1 ha2) fun σ H Q ⟨δ, st, G, hE, hR, hw⟩ => ?_
  · obtain ⟨a1, a2, a3, a4, a5, a6, a7⟩ := params
    simp only at n1 n2 n3 n4 n5
    subst n1 n2 n3 n4 n5
    rfl
  · refine ⟨(hTB H).mp hR.tb, fun H1 e1 t1 E Q1 hE1 hQ1 => ?_⟩
    have hR1 : Rp X.K NM TB G H1 st := hR.extN e1 ((hTB H1).mpr t1)
    refine ⟨δ, st, G, hE, hR1, ?_⟩
    have hw : (match ev P Φ Ψ ie δ st with
      | .ok _ s' => Res.ok Dat.non (s'.take st.length)
      | .err c fs s' => if excQ P c && belowC P c [b] then opt (evH P c fs h) (s'.take st.length) else .stuck
      | .stuck => .stuck : Res Dat).wp (KX X.K NM TB G st Q) (EX X.K NM TB G st σ W) := hw
    cases q : ev P Φ Ψ ie δ st with
    | ok d s1 =>
      rw [q] at hw
      intro v H' G' ex r' _
      exact hQ1 v H' (hw .non H' G' ex.take (r'.take _) (RepV.toX .non))
    | err c fs s1 =>
      rw [q] at hw
      have hw : (if excQ P c && belowC P c [b] then opt (evH P c fs h) (s1.take st.length) else .stuck : Res Dat).wp (KX X.K NM TB G st Q) (EX X.K NM TB G st σ W) := hw
      by_cases qq : (excQ P c && belowC P c [b]) = true
      · rw [if_pos qq] at hw
        rw [Bool.and_eq_true] at qq
        obtain ⟨r, hr, hw⟩ := wp_opt hw
        intro dd H' G' gs ex r' hd hF
        exact hE1 _ _ _ ⟨c, dd, gs, fs, G', s1.take st.length, rfl, rfl, qq.1, qq.2, r'.take _, hd, hF, r, hr, fun v H2 G2 e2 r2 x2 => hw v H2 G2 (ex.take.trans e2) r2 x2.toX⟩
      · rw [if_neg qq] at hw; exact hw.elim
    | stuck => rw [q] at hw; exact hw.elim
end
end Z

set_option linter.all false
set_option maxRecDepth 100000
set_option maxHeartbeats 2000000
namespace Z
open PySem PySem.Spec PyProof.Rows
open L2 (V Hp HO Key VK XK TE TT TA TS TG TGs TO TI WX Cx Inv Ends SqL SqT Same upd upd_same upd_ne ne_of ne_of_none OpR UnR CallR R2 Dp DpAll IxR SlR PE PT PW PA PS PSs PG PGs PI PO PTs PK FnOk Room Vals RelV Sp EP thn MtR)
open L2 (Takes XE BlkOk)
section
variable (T : CT) (NM : Nm) (TB : Hp → Prop) (P : Prog) (Φ Ψ : Fun) (k : Nat)
/-- the tables are true -/
structure Facts (X : Cx) : Prop where
  tp : TbP TB
  fn : ∀ x g, T.fn.lookup x = some g → ∃ a fd, X.mg x = some (.ref a) ∧ FnAt X k a fd (T.pss g) (spD X.K NM TB (T.pss g).length (Φ g))
  cl : ∀ x c, T.cl.lookup x = some c → X.mg x = some (.ref (NM.cls c))
  ini : ∀ c n, T.ini c = some n → ∃ q, P.clss[c]? = some q ∧ q.init = some n
  make : ∀ c q n, P.clss[c]? = some q → q.init = some n → ∃ g fd, MakeAt X k (NM.cls c) g fd (T.pss n) (spD X.K NM TB (T.pss n).length (Ψ n))
  meth : ∀ c q m g, P.clss[c]? = some q → q.meths.lookup m = some g → ∃ fa fd ps, ps.length = npOf P g ∧ MethAt X (NM.cls c) (NM.att m) k fa fd ps (spD X.K NM TB ps.length (Φ g))
  eq : ∀ c q g, P.clss[c]? = some q → q.eq = some g → ∃ fa fd ps, EqAt X k (NM.cls c) fa fd ps (spD X.K NM TB ps.length (Ψ g))
  st : ∀ c q g, P.clss[c]? = some q → q.meths.lookup T.strm = some g → ∃ fa fd ps, StrAt X k (NM.cls c) fa fd ps (spD X.K NM TB ps.length (Φ g))
  ck : ClsOk X.K NM P
  io : ∀ c, plainC P c = true → InsOk X.K (NM.cls c)
  isok : ∀ cr ∈ T.crs, IsOk X.K NM P cr
  bl : ∀ x ∈ T.bl, X.mg x = none
  con : ∀ x d, T.con.lookup x = some d → ∃ u v, X.mg x = some u ∧ RelV v u ∧ ∀ F, RepV X.K NM F v d
  oex : ∀ c q, P.clss[c]? = some q → q.flds ≠ [] → OexAt X k (NM.cls c) (q.flds.map NM.att)
  exc : ∀ c ∈ T.exc, ∃ q, P.clss[c]? = some q ∧ q.flds ≠ []
  att : ∀ k s, T.att[k]? = some s → NM.att k = s
  hd : ∀ x b h, T.hd.lookup x = some (b, h) → HdAt T NM P X.K X.mg x b h
structure At (C : Ctx) (X : Cx) : Prop where
  N : X.N = C.N
  nd : C.N.Nodup
  sc : X.env.scope = C.sc
  fn : ∀ x, C.fnOk x = true → X.fn x = true
  calm : X.calm = true
  room : Room (k + 4) X.A
  F : Facts T NM TB P Φ Ψ k X
  lam : C.lam = true → Room (k + 6) X.A ∧ LamAt TB X
end
section
variable {T : CT} {NM : Nm} {TB : Hp → Prop} {P : Prog} {Φ Ψ : Fun} {k : Nat}
theorem FnAt.blk {X : Cx} {s : Shared} {H : Hp} {scope : Scope} {cenv : PySem.Env} {fp : List Addr} {f : Addr} {fd : FuncData} {ps : List Str} {sp : Sp} (h : FnAt X k f fd ps sp) : FnAt (X.blk s H scope cenv fp) k f fd ps sp := ⟨h.ok, h.plain, h.nd, h.dv, h.keep⟩
theorem Facts.blk {X : Cx} {s : Shared} {H : Hp} {scope : Scope} {cenv : PySem.Env} {fp : List Addr} (h : Facts T NM TB P Φ Ψ k X) : Facts T NM TB P Φ Ψ k (X.blk s H scope cenv fp) where
  tp := h.tp
  fn := fun x g e => let ⟨a, fd, h1, h2⟩ := h.fn x g e; ⟨a, fd, h1, h2.blk⟩
  cl := h.cl
  ini := h.ini
  make := fun c q n e1 e2 => let ⟨g, fd, h1⟩ := h.make c q n e1 e2; ⟨g, fd, ⟨h1.mkC, h1.ok, h1.plain, h1.nd, h1.dv⟩⟩
  meth := fun c q m g e1 e2 => let ⟨fa, fd, ps, h0, h1⟩ := h.meth c q m g e1 e2; ⟨fa, fd, ps, h0, ⟨h1.cls, h1.meth, h1.fn.blk⟩⟩
  eq := fun c q g e1 e2 => let ⟨fa, fd, ps, h1⟩ := h.eq c q g e1 e2; ⟨fa, fd, ps, ⟨h1.fn.blk, h1.two, h1.eq, h1.isf, h1.ne, h1.ob⟩⟩
  st := fun c q g e1 e2 => let ⟨fa, fd, ps, h1⟩ := h.st c q g e1 e2; ⟨fa, fd, ps, ⟨h1.fn.blk, h1.one, h1.st, h1.isf⟩⟩
  ck := h.ck
  io := h.io
  isok := h.isok
  bl := h.bl
  con := h.con
  oex := fun c q e1 e2 => let h1 := h.oex c q e1 e2; ⟨h1.T, h1.no, h1.ne, h1.few, h1.run⟩
  exc := h.exc
  att := h.att
  hd := h.hd
theorem At.blk {C : Ctx} {X : Cx} (h : At T NM TB P Φ Ψ k C X) {s : Shared} {H : Hp} {scope : Scope} {cl : List (Str × Addr)} {Ca : Addr} {fp : List Addr} : At T NM TB P Φ Ψ k (C.inn scope) (X.blk s H scope (compEnvC scope cl Ca X.env) fp) where
  N := h.N
  nd := h.nd
  sc := by
    show L2.relS scope X.env.scope = L2.relS scope C.sc
    rw [h.sc]
  fn := fun x e => e
  calm := h.calm
  room := h.room
  F := h.F.blk
  lam := fun z => by cases z
theorem FnAt.lamx {X : Cx} {A : Around} {outer : List PySem.Env} {s : Shared} {H : Hp} {E : XK} {scope : Scope} {g c' : Addr} {f : Addr} {fd : FuncData} {ps : List Str} {sp : Sp} (h : FnAt X k f fd ps sp) : FnAt (LamX.lamCx X A outer s H E scope g c') k f fd ps sp := ⟨h.ok, h.plain, h.nd, h.dv, h.keep⟩
theorem Facts.lamx {X : Cx} {A : Around} {outer : List PySem.Env} {s : Shared} {H : Hp} {E : XK} {scope : Scope} {gg c' : Addr} (h : Facts T NM TB P Φ Ψ k X) : Facts T NM TB P Φ Ψ k (LamX.lamCx X A outer s H E scope gg c') where
  tp := h.tp
  fn := fun x g e => let ⟨a, fd, h1, h2⟩ := h.fn x g e; ⟨a, fd, h1, h2.lamx⟩
  cl := h.cl
  ini := h.ini
  make := fun c q n e1 e2 => let ⟨g, fd, h1⟩ := h.make c q n e1 e2; ⟨g, fd, ⟨h1.mkC, h1.ok, h1.plain, h1.nd, h1.dv⟩⟩
  meth := fun c q m g e1 e2 => let ⟨fa, fd, ps, h0, h1⟩ := h.meth c q m g e1 e2; ⟨fa, fd, ps, h0, ⟨h1.cls, h1.meth, h1.fn.lamx⟩⟩
  eq := fun c q g e1 e2 => let ⟨fa, fd, ps, h1⟩ := h.eq c q g e1 e2; ⟨fa, fd, ps, ⟨h1.fn.lamx, h1.two, h1.eq, h1.isf, h1.ne, h1.ob⟩⟩
  st := fun c q g e1 e2 => let ⟨fa, fd, ps, h1⟩ := h.st c q g e1 e2; ⟨fa, fd, ps, ⟨h1.fn.lamx, h1.one, h1.st, h1.isf⟩⟩
  ck := h.ck
  io := h.io
  isok := h.isok
  bl := h.bl
  con := h.con
  oex := fun c q e1 e2 => let h1 := h.oex c q e1 e2; ⟨h1.T, h1.no, h1.ne, h1.few, h1.run⟩
  exc := h.exc
  att := h.att
  hd := h.hd
theorem At.lamx {C : Ctx} {X : Cx} (h : At T NM TB P Φ Ψ k C X) {A : Around} {outer : List PySem.Env} {s : Shared} {H : Hp} {E : XK} {scope : Scope} {g c' : Addr} (L : LamX.LamS C.sc scope) (hr : Room (k + 4) (LamX.lamCx X A outer s H E scope g c').A) : At T NM TB P Φ Ψ k ⟨C.N, scope, some scope, false⟩ (LamX.lamCx X A outer s H E scope g c') where
  N := h.N
  nd := h.nd
  sc := rfl
  fn := fun x e => by
    have e : (scope.names.lookup x == some NameKind.cell) = true := e
    exact absurd rfl (L.own _ (PySem.mem_of_lookup (beq_iff_eq.mp e))).2
  calm := rfl
  room := hr
  F := h.F.lamx
  lam := fun z => by cases z
theorem takes_blk {X : Cx} : Takes X WF := fun u s' ⟨_, _, _, _, _, _, _, _, _, _, _, _, _, _, _, _, w⟩ => w.elim
theorem gl_of {C : Ctx} {X : Cx} (h : At T NM TB P Φ Ψ k C X) {x : Str} (e : isGl C x = true) : L2.Gl X x ∧ (x == ("__debug__" : Str)) = false := by
  unfold isGl at e
  rw [Bool.and_eq_true] at e
  refine ⟨?_, by simpa using e.2⟩
  show X.env.kindOf x = _
  unfold Env.kindOf
  rw [h.sc]
  exact of_decide_eq_true e.1
theorem loc_of {C : Ctx} {X : Cx} (h : At T NM TB P Φ Ψ k C X) {x : Str} (e : isLoc C x = true) : L2.Loc X.env.scope x ∧ (X.fn x = true ∨ X.env.scope.names.lookup x = some .local) := by
  unfold isLoc at e
  rw [Bool.or_eq_true] at e
  unfold L2.Loc
  rw [h.sc]
  rcases e with e | e
  · have := of_decide_eq_true e
    exact ⟨.inl this, .inr this⟩
  · rw [Bool.and_eq_true] at e
    exact ⟨.inr (of_decide_eq_true e.1), .inl (h.fn x e.2)⟩
theorem vis_of {C : Ctx} {X : Cx} (h : At T NM TB P Φ Ψ k C X) {x : Str} (e : isVis C x = true) : L2.Vis X.env.scope x ∧ (x == ("__debug__" : Str)) = false ∧ (x == ("__classdict__" : Str)) = false := by
  unfold isVis at e
  simp only [Bool.and_eq_true, Bool.or_eq_true, decide_eq_true_eq, Bool.not_eq_true'] at e
  obtain ⟨⟨e1, e2⟩, e3⟩ := e
  refine ⟨?_, e2, e3⟩
  unfold L2.Vis
  rw [h.sc]
  rcases e1 with (e1 | e1) | e1
  · exact .inl e1
  · exact .inr (.inl e1)
  · exact .inr (.inr e1)
theorem name_ne {x y : Str} (h : (x == y) = true) : x = y := by simpa using h
theorem cop_of {op : CmpOp} {o : COp} (h : copD op = some o) : o.op = op := by
  cases op <;> cases h <;> rfl
theorem bop_of {op : Operator} {o : BOp} (h : bopD op = some o) : o.op = op := by
  cases op <;> first | cases h | skip
  all_goals rfl
variable (T NM TB P Φ Ψ k)
/-- a translation of an expression that is right in every context -/
def GoodE (f : Ctx → Expr → Option IE) : Prop := ∀ C e i, f C e = some i → ∀ X W, At T NM TB P Φ Ψ k C X → Takes X W → WK W → DE X NM TB W P Φ Ψ e i
def GoodT (t : Ctx → Expr → Option IT) : Prop := ∀ C e i, t C e = some i → ∀ X W, At T NM TB P Φ Ψ k C X → Takes X W → WK W → DT X NM TB W P Φ Ψ e i
variable {T NM TB P Φ Ψ k}
section
variable {C : Ctx} {X : Cx} {W : WX}
theorem all_da {f : Ctx → Expr → Option IE} (hf : GoodE T NM TB P Φ Ψ k f) (A : At T NM TB P Φ Ψ k C X) (tk : Takes X W) (wk : WK W) : ∀ {es : List Expr} {is : List IE}, noStars es = true → allE (f C) es = some is → DA X NM TB W P Φ Ψ es is
  | [], is, _, h => by cases h; exact da_nil
  | e :: es, is, ns, h => by
    obtain ⟨i, ir, rfl, h1, h2⟩ := allE_cons h
    obtain ⟨n1, n2⟩ := noStars_cons ns
    exact da_cons (hf _ _ _ h1 X W A tk wk) (all_da hf A tk wk n2 h2) (star_cons n1)
theorem all_dl {f : Ctx → Expr → Option IE} (hf : GoodE T NM TB P Φ Ψ k f) (A : At T NM TB P Φ Ψ k C X) (tk : Takes X W) (wk : WK W) : ∀ {es : List Expr} {is : List IE}, noStars es = true → allE (f C) es = some is → DL X NM TB W P Φ Ψ es is
  | [], is, _, h => by cases h; exact dl_nil
  | e :: es, is, ns, h => by
    obtain ⟨i, ir, rfl, h1, h2⟩ := allE_cons h
    obtain ⟨n1, n2⟩ := noStars_cons ns
    exact dl_cons (hf _ _ _ h1 X W A tk wk) (all_dl hf A tk wk n2 h2) (star_cons n1)
theorem kw_dk {f : Ctx → Expr → Option IE} (hf : GoodE T NM TB P Φ Ψ k f) (A : At T NM TB P Φ Ψ k C X) (tk : Takes X W) (wk : WK W) : ∀ {es : List Keyword} {is : List IE}, kwE (f C) es = some is → DK X NM TB W P Φ Ψ es is ∧ kwAll es = true ∧ (kwNames es).length = is.length
  | [], is, h => by cases h; exact ⟨dk_nil, rfl, rfl⟩
  | ⟨nm, e, p⟩ :: es, is, h => by
    cases nm with
    | none => cases h
    | some n =>
      have h : (match f C e, kwE (f C) es with
        | some i, some is => some (i :: is)
        | _, _ => none) = some is := h
      cases h1 : f C e with
      | none => rw [h1] at h; cases h
      | some i =>
        cases h2 : kwE (f C) es with
        | none => rw [h1, h2] at h; cases h
        | some ir =>
          rw [h1, h2] at h
          cases h
          obtain ⟨a1, a2, a3⟩ := kw_dk hf A tk wk h2
          refine ⟨dk_cons (hf _ _ _ h1 X W A tk wk) a1, ?_, ?_⟩
          · show ((some n).isSome && kwAll es) = true
            rw [a2]; rfl
          · show (kwNames es).length + 1 = _
            rw [a3]; rfl
theorem id_pm : ∀ (n : Nat) (ds : List Dat), ds.length = n → permD (idPm n) ds = some ds := by
  have key : ∀ (m n : Nat) (pre ds : List Dat), pre.length = m → ds.length = n → permD ((List.range' m n).map .inl) (pre ++ ds) = some ds := by
    intro m n
    induction n generalizing m with
    | zero => intro pre ds h1 h2; cases ds <;> first | rfl | simp at h2
    | succ n ih =>
      intro pre ds h1 h2
      cases ds with
      | nil => simp at h2
      | cons d ds =>
        have e1 : (pre ++ d :: ds)[m]? = some d := by rw [List.getElem?_append_right (by omega)]; simp [h1]
        have e2 : pre ++ d :: ds = (pre ++ [d]) ++ ds := by simp
        rw [List.range'_succ, List.map_cons]
        unfold permD
        rw [e1, e2, ih (m + 1) (pre ++ [d]) ds (by simp [h1]) (by simpa using h2)]
  intro n ds h
  have := key 0 n [] ds rfl h
  unfold idPm
  rw [List.range_eq_range']
  exact this
end
end
end Z

set_option linter.all false
set_option maxRecDepth 100000
set_option maxHeartbeats 2000000
namespace Z
open PySem PySem.Spec PyProof.Rows
open L2 (V Hp HO Key VK XK TE TT TA TS TG TGs TO TI WX Cx Inv Ends SqL SqT Same upd upd_same upd_ne ne_of ne_of_none OpR UnR CallR R2 Dp DpAll IxR SlR PE PT PW PA PS PSs PG PGs PI PO PTs PK FnOk Room Vals RelV Sp EP thn MtR)
open L2 (Takes XE BlkOk)
section
variable {T : CT} {NM : Nm} {TB : Hp → Prop} {P : Prog} {Φ Ψ : Fun} {k : Nat} {C : Ctx} {X : Cx} {W : WX} {f : Ctx → Expr → Option IE} {t : Ctx → Expr → Option IT}
theorem bool_ok (hf : GoodE T NM TB P Φ Ψ k f) (A : At T NM TB P Φ Ψ k C X) (tk : Takes X W) (wk : WK W) {op : PySem.BoolOp} {pos : Pos} : ∀ {vs : List Expr} {i : IE}, boolE (f C) op vs = some i → DE X NM TB W P Φ Ψ (.BoolOp op vs pos) i
  | [], i, h => by cases h
  | [a], i, h => de_one (hf _ _ _ h X W A tk wk)
  | a :: b :: r, i, h => by
    unfold boolE at h
    split at h
    · rename_i ia ib h1 h2
      have ih := bool_ok hf A tk wk (pos := pos) h2
      cases op with
      | And => cases h; exact de_and (hf _ _ _ h1 X W A tk wk) ih
      | Or => cases h; exact de_or (hf _ _ _ h1 X W A tk wk) ih
    · cases h
theorem boolT_ok (ht : GoodT T NM TB P Φ Ψ k t) (A : At T NM TB P Φ Ψ k C X) (tk : Takes X W) (wk : WK W) {op : PySem.BoolOp} {pos : Pos} : ∀ {vs : List Expr} {i : IT}, boolT (t C) op vs = some i → DW X NM TB W P Φ Ψ (.BoolOp op vs pos) i
  | [], i, h => by cases h
  | [a], i, h => by
    cases op with
    | And => exact dw_and1 (ht _ _ _ h X W A tk wk)
    | Or => exact dw_or1 (ht _ _ _ h X W A tk wk)
  | a :: b :: r, i, h => by
    unfold boolT at h
    split at h
    · rename_i ia ib h1 h2
      have ih := boolT_ok ht A tk wk (pos := pos) h2
      cases op with
      | And => cases h; exact dw_and (ht _ _ _ h1 X W A tk wk) ih
      | Or => cases h; exact dw_or (ht _ _ _ h1 X W A tk wk) ih
    · cases h
theorem room1 (A : At T NM TB P Φ Ψ k C X) : Room (k + 1) X.A := A.room.mono (by omega)
theorem room2 (A : At T NM TB P Φ Ψ k C X) : Room (k + 2) X.A := A.room.mono (by omega)
theorem room0 (A : At T NM TB P Φ Ψ k C X) : Room k X.A := A.room.mono (by omega)
theorem unit65 (A : At T NM TB P Φ Ψ k C X) : X.A.units + 65 < cLine := by have := A.room.un; omega
theorem cmp_parts {a : Expr} {ops : List CmpOp} {cs : List Expr} {i : IE} (h : cCmp f C a ops cs = some i) :
    (∃ op b o ia ib, ops = [op] ∧ cs = [b] ∧ copD op = some o ∧ f C a = some ia ∧ f C b = some ib ∧ behindInMarks op b = false ∧ i = .cmp o ia ib) ∨
    (∃ op op2 b c o o2 ia ib ic, ops = [op, op2] ∧ cs = [b, c] ∧ copD op = some o ∧ copD op2 = some o2 ∧ f C a = some ia ∧ f C b = some ib ∧ f C c = some ic ∧ lastMarks [op, op2] [b, c] = false ∧ i = .chain o o2 ia ib ic) := by
  unfold cCmp at h
  split at h
  · split at h
    · rename_i op b _ _ _ o i j h1 h2 h3
      split at h
      · cases h
      · rename_i hm
        cases h
        exact .inl ⟨op, b, o, i, j, rfl, rfl, h1, h2, h3, by simpa using hm, rfl⟩
    · cases h
  · split at h
    · rename_i op op2 b c _ _ _ _ _ o o2 i j k h1 h2 h3 h4 h5
      split at h
      · cases h
      · rename_i hm
        cases h
        exact .inr ⟨op, op2, b, c, o, o2, i, j, k, rfl, rfl, h1, h2, h3, h4, h5, by simpa using hm, rfl⟩
    · cases h
  · cases h
theorem cmp_ok (hf : GoodE T NM TB P Φ Ψ k f) (A : At T NM TB P Φ Ψ k C X) (tk : Takes X W) (wk : WK W) {a : Expr} {ops : List CmpOp} {cs : List Expr} {i : IE} {pos : Pos} (h : cCmp f C a ops cs = some i) :
    DE X NM TB W P Φ Ψ (.Compare a ops cs pos) i ∧ DT X NM TB W P Φ Ψ (.Compare a ops cs pos) (.val i) := by
  rcases cmp_parts h with ⟨op, b, o, ia, ib, rfl, rfl, h1, h2, h3, h4, rfl⟩ | ⟨op, op2, b, c, o, o2, ia, ib, ic, rfl, rfl, h1, h2, h3, h4, h5, h6, rfl⟩
  · have e := cop_of h1
    subst e
    have da := hf _ _ _ h2 X W A tk wk
    have db := hf _ _ _ h3 X W A tk wk
    exact ⟨de_cmp wk o (room1 A) tk A.F.eq da db h4, dt_cmp wk o (room1 A) tk A.F.eq da db h4⟩
  · have e := cop_of h1
    have e2 := cop_of h2
    subst e e2
    have da := hf _ _ _ h3 X W A tk wk
    have db := hf _ _ _ h4 X W A tk wk
    have dc := hf _ _ _ h5 X W A tk wk
    exact ⟨de_chain (unit65 A) o o2 da db dc h6, dt_chain (unit65 A) o o2 da db dc h6⟩
theorem bl_of (A : At T NM TB P Φ Ψ k C X) {x : Str} (h : T.bl.contains x = true) : X.mg x = none := A.F.bl x (by simpa using h)
theorem cr_of (A : At T NM TB P Φ Ψ k C X) {e : Expr} {cr : CR} (h : cCr T C e = some cr) : CrE X NM e cr := by
  unfold cCr at h
  split at h
  · rename_i x pos
    split at h
    · rename_i hg
      obtain ⟨g1, g2⟩ := gl_of A hg
      split at h
      · rename_i c hc
        cases h
        exact .own g1 (A.F.cl x c hc) g2
      · split at h
        · rename_i hb
          have hm := bl_of A hb
          repeat' (split at h)
          all_goals first
            | (cases h; done)
            | (rename_i hx
               have e := name_ne hx
               subst e
               cases h
               exact .ty g1 hm (by first | exact boot_int | exact boot_bool | exact PyProof.Rows.boot_str | exact boot_list | exact boot_tuple | rfl) (by decide) g2)
        · cases h
    · cases h
  · cases h
theorem crs_of (A : At T NM TB P Φ Ψ k C X) : ∀ {es : List Expr} {cs : List CR}, allE (cCr T C) es = some cs → CrEs X NM es cs
  | [], cs, h => by cases h; exact .nil
  | e :: es, cs, h => by
    obtain ⟨c, cr, rfl, h1, h2⟩ := allE_cons h
    exact .cons (cr_of A h1) (crs_of A h2)
theorem cr_mem {c d : CR} (h : (match c, d with | .ty m, .ty n => m == n | .own m, .own n => m == n | _, _ => false) = true) : c = d := by
  cases c <;> cases d <;> first | (cases h; done) | (have : _ := h; simp at this; rw [this])
theorem bi1_ok (hf : GoodE T NM TB P Φ Ψ k f) (A : At T NM TB P Φ Ψ k C X) (tk : Takes X W) (wk : WK W) {x : Str} {bb : BI} {a : Expr} {ia : IE} {p pos : Pos} (hx : bi1 x = some bb) (hg : L2.Gl X x) (hd : (x == ("__debug__" : Str)) = false) (hm : X.mg x = none) (ha : f C a = some ia) (ns : isStar a = false) :
    DE X NM TB W P Φ Ψ (.Call (.Name x p) [a] [] pos) (.bi bb ia) := by
  have da := hf _ _ _ ha X W A tk wk
  have tp := A.F.tp
  have hc := A.calm
  have hu := unit65 A
  unfold bi1 at hx
  by_cases q : (x == "len") = true
  · rw [if_pos q] at hx
    have e := name_ne q
    subst e
    cases hx
    exact de_biB bi_len hg hm (by first | exact PyProof.Rows.boot_len | rfl) (by decide) hd da ns
  rw [if_neg q] at hx
  clear q
  by_cases q : (x == "abs") = true
  · rw [if_pos q] at hx
    have e := name_ne q
    subst e
    cases hx
    exact de_biB bi_abs hg hm (by first | exact PyProof.Rows.boot_abs | rfl) (by decide) hd da ns
  rw [if_neg q] at hx
  clear q
  by_cases q : (x == "int") = true
  · rw [if_pos q] at hx
    have e := name_ne q
    subst e
    cases hx
    exact de_biT bi_int hg hm (by first | exact PyProof.Rows.boot_int | rfl) (by decide) hd da ns
  rw [if_neg q] at hx
  clear q
  by_cases q : (x == "bool") = true
  · rw [if_pos q] at hx
    have e := name_ne q
    subst e
    cases hx
    exact de_biT bi_bool hg hm (by first | exact PyProof.Rows.boot_bool | rfl) (by decide) hd da ns
  rw [if_neg q] at hx
  clear q
  by_cases q : (x == "sum") = true
  · rw [if_pos q] at hx
    have e := name_ne q
    subst e
    cases hx
    exact de_biB (bi_sum hc) hg hm (by first | exact PyProof.Rows.boot_sum | rfl) (by decide) hd da ns
  rw [if_neg q] at hx
  clear q
  by_cases q : (x == "sorted") = true
  · rw [if_pos q] at hx
    have e := name_ne q
    subst e
    cases hx
    exact de_biB (bi_sorted tp (by omega)) hg hm (by first | exact PyProof.Rows.boot_sorted | rfl) (by decide) hd da ns
  rw [if_neg q] at hx
  clear q
  by_cases q : (x == "any") = true
  · rw [if_pos q] at hx
    have e := name_ne q
    subst e
    cases hx
    exact de_biB (bi_any hc) hg hm (by first | exact PyProof.Rows.boot_any | rfl) (by decide) hd da ns
  rw [if_neg q] at hx
  clear q
  by_cases q : (x == "all") = true
  · rw [if_pos q] at hx
    have e := name_ne q
    subst e
    cases hx
    exact de_biB (bi_all hc) hg hm (by first | exact PyProof.Rows.boot_all | rfl) (by decide) hd da ns
  rw [if_neg q] at hx
  clear q
  by_cases q : (x == "max") = true
  · rw [if_pos q] at hx
    have e := name_ne q
    subst e
    cases hx
    exact de_biB (bi_max hc) hg hm (by first | exact PyProof.Rows.boot_max | rfl) (by decide) hd da ns
  rw [if_neg q] at hx
  clear q
  by_cases q : (x == "min") = true
  · rw [if_pos q] at hx
    have e := name_ne q
    subst e
    cases hx
    exact de_biB (bi_min hc) hg hm (by first | exact PyProof.Rows.boot_min | rfl) (by decide) hd da ns
  rw [if_neg q] at hx
  clear q
  by_cases q : (x == "list") = true
  · rw [if_pos q] at hx
    have e := name_ne q
    subst e
    cases hx
    exact de_biT (bi_list tp) hg hm (by first | exact PyProof.Rows.boot_list | rfl) (by decide) hd da ns
  rw [if_neg q] at hx
  clear q
  by_cases q : (x == "tuple") = true
  · rw [if_pos q] at hx
    have e := name_ne q
    subst e
    cases hx
    exact de_biT (bi_tuple tp) hg hm (by first | exact PyProof.Rows.boot_tuple | rfl) (by decide) hd da ns
  rw [if_neg q] at hx
  clear q
  cases hx
end
end Z

set_option linter.all false
set_option maxRecDepth 100000
set_option maxHeartbeats 4000000
namespace Z
open PySem PySem.Spec PyProof.Rows
open L2 (V Hp HO Key VK XK TE TT TA TS TG TGs TO TI WX Cx Inv Ends SqL SqT Same upd upd_same upd_ne ne_of ne_of_none OpR UnR CallR R2 Dp DpAll IxR SlR PE PT PW PA PS PSs PG PGs PI PO PTs PK FnOk Room Vals RelV Sp EP thn MtR)
open L2 (Takes XE BlkOk)
section
variable {T : CT} {NM : Nm} {TB : Hp → Prop} {P : Prog} {Φ Ψ : Fun} {k : Nat} {C : Ctx} {X : Cx} {W : WX} {f : Ctx → Expr → Option IE} {t : Ctx → Expr → Option IT}
theorem star1 {a : Expr} {env : PySem.Env} (h : isStar a = false) : starEach [a] env = [(false, eval a env)] := star_cons h
theorem tup_of {e : Expr} (h : isTup e = true) : ∃ es kk p, e = .Tuple es kk p := by
  cases e <;> first | exact ⟨_, _, _, rfl⟩ | cases h
theorem it_ok (hf : GoodE T NM TB P Φ Ψ k f) (A : At T NM TB P Φ Ψ k C X) (tk : Takes X W) (wk : WK W) {tg e : Expr} {it : It} (h : cIt T f C tg e = some it) : DI X NM TB W P Φ Ψ tg e it := by
  have dflt : ∀ {it : It}, (f C e).map .val = some it → DI X NM TB W P Φ Ψ tg e it := fun {it} h => by
    obtain ⟨i, h1, rfl⟩ := map_some h
    exact di_val (hf _ _ _ h1 X W A tk wk)
  unfold cIt at h
  split at h
  · rename_i x xp args cp
    by_cases hg : (isGl C x && T.bl.contains x && noStars args) = true
    · rw [if_pos hg] at h
      rw [Bool.and_eq_true, Bool.and_eq_true] at hg
      obtain ⟨⟨hg1, hg2⟩, ns⟩ := hg
      obtain ⟨g1, g2⟩ := gl_of A hg1
      have hm := bl_of A hg2
      split at h
      · rename_i a
        obtain ⟨n1, _⟩ := noStars_cons ns
        by_cases q : (x == "range") = true
        · rw [if_pos q] at h
          have ex := name_ne q
          subst ex
          obtain ⟨i, h1, rfl⟩ := map_some h
          exact di_rng1 g1 hm (hf _ _ _ h1 X W A tk wk) (star1 n1)
        · rw [if_neg q] at h
          by_cases q2 : (x == "enumerate" && isTup tg) = true
          · rw [if_pos q2] at h
            rw [Bool.and_eq_true] at q2
            have ex := name_ne q2.1
            subst ex
            obtain ⟨es, kk, p, rfl⟩ := tup_of q2.2
            obtain ⟨i, h1, rfl⟩ := map_some h
            exact di_enum A.F.tp g1 hm (hf _ _ _ h1 X W A tk wk) (star1 n1)
          · rw [if_neg q2] at h
            exact dflt h
      · rename_i a b
        obtain ⟨n1, n2'⟩ := noStars_cons ns
        obtain ⟨n2, _⟩ := noStars_cons n2'
        by_cases q : (x == "range") = true
        · rw [if_pos q] at h
          have ex := name_ne q
          subst ex
          split at h
          · rename_i i j h1 h2
            cases h
            exact di_rng2 g1 hm (hf _ _ _ h1 X W A tk wk) (hf _ _ _ h2 X W A tk wk) (by rw [star_cons n1, star1 n2]) (star1 n2)
          · cases h
        · rw [if_neg q] at h
          by_cases q2 : (x == "zip" && isTup tg) = true
          · rw [if_pos q2] at h
            rw [Bool.and_eq_true] at q2
            have ex := name_ne q2.1
            subst ex
            obtain ⟨es, kk, p, rfl⟩ := tup_of q2.2
            split at h
            · rename_i i j h1 h2
              cases h
              exact di_zip2 A.F.tp g1 hm (hf _ _ _ h1 X W A tk wk) (hf _ _ _ h2 X W A tk wk) n1 n2
            · cases h
          · rw [if_neg q2] at h
            exact dflt h
      · rename_i a b c
        obtain ⟨n1, n2'⟩ := noStars_cons ns
        obtain ⟨n2, n3'⟩ := noStars_cons n2'
        obtain ⟨n3, _⟩ := noStars_cons n3'
        by_cases q : (x == "zip") = true
        · rw [if_pos q] at h
          have ex := name_ne q
          subst ex
          split at h
          · rename_i i j l h1 h2 h3
            cases h
            exact di_zip3 A.F.tp g1 hm (hf _ _ _ h1 X W A tk wk) (hf _ _ _ h2 X W A tk wk) (hf _ _ _ h3 X W A tk wk) n1 n2 n3
          · cases h
        · rw [if_neg q] at h
          exact dflt h
      · exact dflt h
    · rw [if_neg hg] at h
      exact dflt h
  · exact dflt h
theorem nm_of (A : At T NM TB P Φ Ψ k C X) : ∀ {es : List Expr} {is : List Nat}, allE (cNm C) es = some is → Nms X es is
  | [], is, h => by cases h; exact .nil
  | e :: es, is, h => by
    obtain ⟨i, ir, rfl, h1, h2⟩ := allE_cons h
    cases e with
    | Name x p =>
      have h1 : (if isLoc C x then idx C.N x else none) = some i := h1
      by_cases q : isLoc C x = true
      · rw [if_pos q] at h1
        obtain ⟨l1, l2⟩ := loc_of A q
        exact .cons (by rw [A.N]; exact idx_of h1) l1 l2 (nm_of A h2)
      · rw [if_neg q] at h1; cases h1
    | _ => cases h1
theorem nms_each {es : List Expr} {is : List Nat} (h : Nms X es is) : (assignEach es X.env).length = is.length ∧ (assignEach es X.env).findIdx? (·.1) = none := by
  induction h with
  | nil => exact ⟨rfl, rfl⟩
  | cons hi hx hf _ ih =>
    obtain ⟨h1, h2⟩ := ih
    refine ⟨congrArg (· + 1) h1, ?_⟩
    show List.findIdx? (·.1) ((false, _) :: assignEach _ X.env) = none
    rw [List.findIdx?_cons]
    simp only [Bool.false_eq_true, if_false]
    rw [h2]
    rfl
theorem tg_ok (A : At T NM TB P Φ Ψ k C X) {tg : Expr} {g : Tgt} (h : cTg C tg = some g) : PG X tg (gT X.K NM TB g) := by
  have hN : X.N.Nodup := by rw [A.N]; exact A.nd
  cases tg with
  | Name x p =>
    obtain ⟨i, h1, rfl⟩ := map_some (show (cNm C (.Name x p)).map Tgt.name = some g from h)
    have h1 : (if isLoc C x then idx C.N x else none) = some i := h1
    by_cases q : isLoc C x = true
    · rw [if_pos q] at h1
      obtain ⟨l1, l2⟩ := loc_of A q
      exact dg_name hN (by rw [A.N]; exact idx_of h1) l1 l2
    · rw [if_neg q] at h1; cases h1
  | Tuple es kk p =>
    obtain ⟨is, h1, rfl⟩ := map_some (show (allE (cNm C) es).map Tgt.tup = some g from h)
    have nm := nm_of A h1
    obtain ⟨e1, e2⟩ := nms_each nm
    exact dg_tup A.calm hN nm e1 e2
  | _ => cases h
theorem folded_ok {e : Expr} {env : PySem.Env} (h : notSet e = true) : ∀ x, foldedSetIterable e env x = pure x := by
  intro x
  cases e <;> first | rfl | cases h
theorem cond_ok (ht : GoodT T NM TB P Φ Ψ k t) (A : At T NM TB P Φ Ψ k C X) (tk : Takes X W) (wk : WK W) {ifs : List Expr} {cond : Option IT} (h : cCond t C ifs = some cond) : PTs X ifs (tTs X.K NM TB (evC P Φ Ψ cond) W) := by
  unfold cCond at h
  split at h
  · cases h; exact dts_nil
  · obtain ⟨c, h1, rfl⟩ := map_some h
    exact dts_one (ht _ _ _ h1 X W A tk wk)
  · cases h
theorem comp_parts (hf : GoodE T NM TB P Φ Ψ k f) (ht : GoodT T NM TB P Φ Ψ k t) (A : At T NM TB P Φ Ψ k C X) (tk : Takes X W) (wk : WK W) {elt tg iter : Expr} {ifs : List Expr} {scope : Scope} {i : IE} (h : cComp T f t C elt tg iter ifs scope = some i) :
    ∃ it g cond ie, i = .comp ie g it cond ((ownOf C.N scope).map (·.2)) ∧ BlkOk X.N X.env.scope scope (ownOf C.N scope) ∧ DI X NM TB W P Φ Ψ tg iter it ∧ BlkD X NM TB P Φ Ψ elt tg ifs scope ie g cond ∧ (∀ i ∈ g.is, i ∈ (ownOf C.N scope).map (·.2)) ∧ notSet iter = true := by
  unfold cComp at h
  by_cases q : (L2.blkC C.N C.sc scope (ownOf C.N scope) && notSet iter) = true
  · rw [if_pos q] at h
    rw [Bool.and_eq_true] at q
    split at h
    · rename_i it g cond ie h1 h2 h3 h4
      by_cases q2 : (g.is.all fun i => ((ownOf C.N scope).map (·.2)).contains i) = true
      · rw [if_pos q2] at h
        cases h
        refine ⟨it, g, cond, ie, rfl, ?_, it_ok hf A tk wk h1, ⟨fun s H Ca cl fp => tg_ok A.blk h2, fun s H Ca cl fp => cond_ok ht A.blk takes_blk wk_f h3, fun s H Ca cl fp => hf _ _ _ h4 _ _ A.blk takes_blk wk_f⟩, fun i m => ?_, q.2⟩
        · have := L2.blkOk_by q.1
          rw [A.N, A.sc]
          exact this
        · have := List.all_eq_true.mp q2 i m
          simpa using this
      · rw [if_neg q2] at h; cases h
    · cases h
  · rw [if_neg q] at h; cases h
theorem comp_ok (hf : GoodE T NM TB P Φ Ψ k f) (ht : GoodT T NM TB P Φ Ψ k t) (A : At T NM TB P Φ Ψ k C X) (tk : Takes X W) (wk : WK W) {elt tg iter : Expr} {ifs : List Expr} {scope : Scope} {i : IE} {pos : Pos} (h : cComp T f t C elt tg iter ifs scope = some i) :
    DE X NM TB W P Φ Ψ (.ListComp elt [⟨tg, iter, ifs, 0⟩] scope pos) i := by
  obtain ⟨it, g, cond, ie, rfl, h1, h2, h3, h4, h5⟩ := comp_parts hf ht A tk wk h
  exact de_lc A.F.tp A.calm (by rw [A.N]; exact A.nd) h2 h1 h3 h4 (folded_ok h5)
theorem att_of (A : At T NM TB P Φ Ψ k C X) {x : Str} {m : Nat} (h : attN T x = some m) : x = NM.att m := by
  unfold attN at h
  obtain ⟨h1, h2, _⟩ := List.findIdx?_eq_some_iff_getElem.mp h
  have e : T.att[m]? = some x := by
    rw [List.getElem?_eq_getElem h1]
    exact congrArg some (by simpa using h2)
  exact (A.F.att m x e).symm
theorem part_ok (hf : GoodE T NM TB P Φ Ψ k f) (A : At T NM TB P Φ Ψ k C X) (tk : Takes X W) (wk : WK W) {e : Expr} {i : IE} (h : partE (f C) e = some i) : ∃ te, PartE X NM TB W P Φ Ψ e i te := by
  unfold partE at h
  split at h
  · cases h; exact ⟨_, .con⟩
  · exact ⟨_, .fmt (hf _ _ _ h X W A tk wk)⟩
  · cases h
theorem parts_ok (hf : GoodE T NM TB P Φ Ψ k f) (A : At T NM TB P Φ Ψ k C X) (tk : Takes X W) (wk : WK W) : ∀ {es : List Expr} {is : List IE}, allE (partE (f C)) es = some is → ∃ ts, PartsE X NM TB W P Φ Ψ es is ts
  | [], is, h => by cases h; exact ⟨_, .nil⟩
  | e :: es, is, h => by
    obtain ⟨i, ir, rfl, h1, h2⟩ := allE_cons h
    obtain ⟨te, h3⟩ := part_ok hf A tk wk h1
    obtain ⟨ts, h4⟩ := parts_ok hf A tk wk h2
    exact ⟨_, .cons h3 h4⟩
theorem opt_ok (hf : GoodE T NM TB P Φ Ψ k f) (A : At T NM TB P Φ Ψ k C X) (tk : Takes X W) (wk : WK W) {o : Option Expr} {i : Option IE} (h : cOpt (f C) o = some i) : PO X o (tOs X.K NM TB (evO P Φ Ψ i) W) := by
  cases o with
  | none => cases h; exact do_none
  | some e =>
    obtain ⟨j, h1, rfl⟩ := map_some (show (f C e).map some = some i from h)
    exact do_some (hf _ _ _ h1 X W A tk wk)
end
end Z

set_option linter.all false
set_option maxRecDepth 100000
set_option maxHeartbeats 4000000
namespace Z
open PySem PySem.Spec PyProof.Rows
open L2 (V Hp HO Key VK XK TE TT TA TS TG TGs TO TI WX Cx Inv Ends SqL SqT Same upd upd_same upd_ne ne_of ne_of_none OpR UnR CallR R2 Dp DpAll IxR SlR PE PT PW PA PS PSs PG PGs PI PO PTs PK FnOk Room Vals RelV Sp EP thn MtR)
open L2 (Takes XE BlkOk)
section
variable {T : CT} {NM : Nm} {TB : Hp → Prop} {P : Prog} {Φ Ψ : Fun} {k : Nat} {C : Ctx} {X : Cx} {W : WX} {f : Ctx → Expr → Option IE} {t : Ctx → Expr → Option IT}
theorem call_ok (hf : GoodE T NM TB P Φ Ψ k f) (A : At T NM TB P Φ Ψ k C X) (tk : Takes X W) (wk : WK W) {x : Str} {args : List Expr} {kws : List Keyword} {i : IE} {p pos : Pos} (h : cCall T f C x args kws = some i) : DE X NM TB W P Φ Ψ (.Call (.Name x p) args kws pos) i := by
  have tp := A.F.tp
  unfold cCall at h
  by_cases hg : (isGl C x && noStars args) = true
  case neg => rw [if_neg hg] at h; cases h
  rw [if_pos hg] at h
  rw [Bool.and_eq_true] at hg
  obtain ⟨hg1, ns⟩ := hg
  obtain ⟨g1, g2⟩ := gl_of A hg1
  split at h
  · rename_i g hfn
    split at h
    · rename_i is js h1 h2
      obtain ⟨a, fd, hm, F⟩ := A.F.fn x g hfn
      obtain ⟨b1, b2, b3⟩ := kw_dk hf A tk wk h2
      by_cases q : (decide (is.length + js.length = (T.pss g).length) && decide (kwNames kws = (T.pss g).drop is.length)) = true
      · rw [if_pos q] at h
        cases h
        rw [Bool.and_eq_true] at q
        have q1 := of_decide_eq_true q.1
        have q2 := of_decide_eq_true q.2
        exact de_call F (room0 A) tk g1 hm g2 (all_da hf A tk wk ns h1) b1 ns b2 q1 q2 fun ds hd => id_pm _ ds hd
      · rw [if_neg q] at h; cases h
    · cases h
  · split at h
    · rename_i c hcl
      split at h
      · rename_i n is js h0 h1 h2
        obtain ⟨b1, b2, b3⟩ := kw_dk hf A tk wk h2
        by_cases q : (decide (is.length + js.length + 1 = (T.pss n).length) && decide (kwNames kws = (T.pss n).drop (is.length + 1))) = true
        · rw [if_pos q] at h
          cases h
          rw [Bool.and_eq_true] at q
          have q1 := of_decide_eq_true q.1
          have q2 := of_decide_eq_true q.2
          obtain ⟨qc, e1, e2⟩ := A.F.ini c n h0
          obtain ⟨ga, fd, M⟩ := A.F.make c qc n e1 e2
          exact de_make tp e1 e2 M (room1 A) tk g1 (A.F.cl x c hcl) g2 (all_da hf A tk wk ns h1) b1 ns b2 q1 q2 fun ds hd => id_pm _ ds (by omega)
        · rw [if_neg q] at h; cases h
      · cases h
    · by_cases hb : T.bl.contains x = true
      case neg => rw [if_neg hb] at h; cases h
      rw [if_pos hb] at h
      have hm := bl_of A hb
      split at h
      · split at h
        · rename_i a
          obtain ⟨n1, _⟩ := noStars_cons ns
          by_cases q : (x == "str") = true
          · rw [if_pos q] at h
            have ex := name_ne q
            subst ex
            obtain ⟨ia, h1, rfl⟩ := map_some h
            exact de_str wk (room2 A) tk g1 hm A.F.st (hf _ _ _ h1 X W A tk wk) n1
          · rw [if_neg q] at h
            split at h
            · rename_i b hbi
              split at h
              · rename_i r rp n rpos
                by_cases q2 : (r == "range" && isGl C r && T.bl.contains r && !isStar n) = true
                · rw [if_pos q2] at h
                  rw [Bool.and_eq_true, Bool.and_eq_true, Bool.and_eq_true] at q2
                  obtain ⟨⟨⟨q3, q4⟩, q5⟩, q6⟩ := q2
                  have er := name_ne q3
                  subst er
                  obtain ⟨ia, h1, rfl⟩ := map_some h
                  have ex : x = "list" := by
                    clear h hm hb g1 g2 hg1 q
                    unfold bi1 at hbi
                    repeat (first
                      | (by_cases q : (x == "list") = true
                         · exact name_ne q
                         rw [if_neg q] at hbi
                         clear q)
                      | (split at hbi
                         · cases hbi))
                    cases hbi
                  subst ex
                  exact de_listRg tp A.calm g1 hm (gl_of A q4).1 (bl_of A q5) (hf _ _ _ h1 X W A tk wk) (by simpa using q6)
                · rw [if_neg q2] at h
                  obtain ⟨ia, h1, rfl⟩ := map_some h
                  exact bi1_ok hf A tk wk hbi g1 g2 hm h1 n1
              · obtain ⟨ia, h1, rfl⟩ := map_some h
                exact bi1_ok hf A tk wk hbi g1 g2 hm h1 n1
            · cases h
        · rename_i a b
          obtain ⟨n1, n2'⟩ := noStars_cons ns
          obtain ⟨n2, _⟩ := noStars_cons n2'
          by_cases q : (x == "isinstance") = true
          · rw [if_pos q] at h
            have ex := name_ne q
            subst ex
            split at h
            · rename_i es kk tp2
              split at h
              · rename_i ia cs h1 h2
                split at h
                · rename_i hcs
                  cases h
                  have hok : ∀ cr ∈ cs, IsOk X.K NM P cr := fun cr m => by
                    have h5 := List.all_eq_true.mp hcs cr m
                    rw [Bool.and_eq_true] at h5
                    obtain ⟨d, hd, hd2⟩ := List.any_eq_true.mp h5.1
                    have e := cr_mem hd2
                    rw [e]
                    exact A.F.isok d hd
                  have hz : big cs.length = true := by
                    cases cs with
                    | nil => rfl
                    | cons c r =>
                      have h5 := List.all_eq_true.mp hcs c List.mem_cons_self
                      rw [Bool.and_eq_true] at h5
                      exact h5.2
                  exact de_isiT tp g1 hm A.F.io hok hz (hf _ _ _ h1 X W A tk wk) n1 (crs_of A h2)
                · cases h
              · cases h
            · split at h
              · rename_i ia c h1 h2
                split at h
                · rename_i hcs
                  cases h
                  obtain ⟨d, hd, hd2⟩ := List.any_eq_true.mp hcs
                  have e := cr_mem hd2
                  exact de_isi1 g1 hm A.F.io (by rw [e]; exact A.F.isok d hd) (hf _ _ _ h1 X W A tk wk) n1 (cr_of A h2)
                · cases h
              · cases h
          · rw [if_neg q] at h
            by_cases q2 : (x == "max") = true
            · rw [if_pos q2] at h
              have ex := name_ne q2
              subst ex
              split at h
              · rename_i ia ib h1 h2
                cases h
                exact de_max2 A.calm g1 hm (hf _ _ _ h1 X W A tk wk) (hf _ _ _ h2 X W A tk wk) n1 n2
              · cases h
            · rw [if_neg q2] at h
              by_cases q3 : (x == "min") = true
              · rw [if_pos q3] at h
                have ex := name_ne q3
                subst ex
                split at h
                · rename_i ia ib h1 h2
                  cases h
                  exact de_min2 A.calm g1 hm (hf _ _ _ h1 X W A tk wk) (hf _ _ _ h2 X W A tk wk) n1 n2
                · cases h
              · rw [if_neg q3] at h; cases h
        · cases h
      · rename_i kn fx fp kp
        by_cases q : (x == "sorted" && kn == "key" && isGl C fx) = true
        · rw [if_pos q] at h
          rw [Bool.and_eq_true, Bool.and_eq_true] at q
          obtain ⟨⟨q1, q2⟩, q3⟩ := q
          have ex := name_ne q1
          subst ex
          have ek := name_ne q2
          subst ek
          obtain ⟨f1, f2⟩ := gl_of A q3
          split at h
          · rename_i a g hfn
            split at h
            · rename_i hone
              obtain ⟨ia, h1, rfl⟩ := map_some h
              obtain ⟨fa, fd, hmf, F⟩ := A.F.fn fx g hfn
              obtain ⟨n1, _⟩ := noStars_cons ns
              exact de_sortBy tp wk A.calm (A.room.mono (by omega)) tk g1 hm f1 hmf f2 F (of_decide_eq_true hone) (hf _ _ _ h1 X W A tk wk) n1
            · cases h
          · cases h
        · rw [if_neg q] at h; cases h
      · cases h
theorem stepE_ok (hf : GoodE T NM TB P Φ Ψ k f) (ht : GoodT T NM TB P Φ Ψ k t) : GoodE T NM TB P Φ Ψ k (stepE T f t) := by
  intro C e i h X W A tk wk
  have tp := A.F.tp
  have E : ∀ {a : Expr} {ia : IE}, f C a = some ia → DE X NM TB W P Φ Ψ a ia := fun h => hf _ _ _ h X W A tk wk
  unfold stepE at h
  split at h
  · rename_i c j p
    obtain ⟨d, h1, rfl⟩ := map_some h
    refine de_const ?_
    cases c <;> cases h1
    · exact .non
    · exact .bl _
    · exact .int _
    · exact .str _
  · rename_i x p
    by_cases q : isVis C x = true
    · rw [if_pos q] at h
      obtain ⟨j, h1, rfl⟩ := map_some h
      obtain ⟨v1, v2, v3⟩ := vis_of A q
      exact de_var (by rw [A.N]; exact idx_of h1) v1 v2 v3
    · rw [if_neg q] at h
      by_cases q2 : isGl C x = true
      · rw [if_pos q2] at h
        obtain ⟨d, h1, rfl⟩ := map_some h
        obtain ⟨g1, g2⟩ := gl_of A q2
        obtain ⟨u, v, c1, c2, c3⟩ := A.F.con x d h1
        exact de_glob (k := .none) g1 c1 c2 g2 c3
      · rw [if_neg q2] at h; cases h
  · split at h
    · rename_i op b p o ia ib h1 h2 h3
      cases h
      have e := bop_of h1
      subst e
      exact de_bin tp o (E h2) (E h3)
    · cases h
  · obtain ⟨ia, h1, rfl⟩ := map_some h
    exact de_neg (E h1)
  · obtain ⟨ia, h1, rfl⟩ := map_some h
    exact de_inv (E h1)
  · obtain ⟨ia, h1, rfl⟩ := map_some h
    exact de_not (E h1)
  · exact bool_ok hf A tk wk h
  · split at h
    · rename_i kc ia ib h1 h2 h3
      cases h
      exact de_ite (ht _ _ _ h1 X W A tk wk) (E h2) (E h3)
    · cases h
  · exact (cmp_ok hf A tk wk h).1
  · split at h
    · rename_i ia l hh h1 h2 h3
      cases h
      exact de_sl tp (E h1) (opt_ok hf A tk wk h2) (opt_ok hf A tk wk h3)
    · cases h
  · rename_i a b p _
    by_cases q : notSl b = true
    · rw [if_pos q] at h
      split at h
      · rename_i ia ib h1 h2
        cases h
        exact de_ix (E h1) (E h2) (fun o i => by cases b <;> first | rfl | cases q)
      · cases h
    · rw [if_neg q] at h; cases h
  · rename_i es kk p
    by_cases q : noStars es = true
    · rw [if_pos q] at h
      obtain ⟨is, h1, rfl⟩ := map_some h
      exact de_tup tp (all_dl hf A tk wk q h1)
    · rw [if_neg q] at h; cases h
  · rename_i es p
    by_cases q : noStars es = true
    · rw [if_pos q] at h
      obtain ⟨is, h1, rfl⟩ := map_some h
      exact de_disp tp (all_dl hf A tk wk q h1)
    · rw [if_neg q] at h; cases h
  · exact comp_ok hf ht A tk wk h
  · rename_i a x p
    by_cases q : baseOk a = true
    · rw [if_pos q] at h
      split at h
      · rename_i ia m h1 h2
        cases h
        exact de_fld A.F.ck (att_of A h2) (E h1) (base_eq q)
      · cases h
    · rw [if_neg q] at h; cases h
  · obtain ⟨is, h1, rfl⟩ := map_some h
    obtain ⟨ts, h2⟩ := parts_ok hf A tk wk h1
    exact de_fstr h2
  · cases h
    exact de_newd tp
  · rename_i x p1 params body scope p2 pos
    unfold cHeard at h
    by_cases q : (C.lam && isGl C x && LamX.lamSB C.sc scope && noParams params) = true
    · rw [if_pos q] at h
      simp only [Bool.and_eq_true] at q
      obtain ⟨⟨⟨q1, q2⟩, q3⟩, q4⟩ := q
      split at h
      · rename_i b hh hl
        obtain ⟨ie, h1, rfl⟩ := map_some h
        obtain ⟨g1, g2⟩ := gl_of A q2
        have L := LamX.lamS_by q3
        obtain ⟨r6, LA⟩ := A.lam q1
        exact de_heard (k := k + 4) tp A.F.bl A.F.att (A.F.hd _ _ _ hl) LA r6 g1 g2 (by rw [A.sc]; exact L) q4 fun A' outer s H E f' c' hr' => hf _ _ _ h1 _ _ (A.lamx L hr') (L2.takes_of rfl rfl rfl rfl) wk_e
      · cases h
    · rw [if_neg q] at h; cases h
  · exact call_ok hf A tk wk h
  · rename_i o m ap args pos
    by_cases q : (baseOk o && noStars args && decide (args.length < 29) && (ap.endLine == pos.line)) = true
    case neg => rw [if_neg q] at h; cases h
    rw [if_pos q] at h
    rw [Bool.and_eq_true, Bool.and_eq_true, Bool.and_eq_true] at q
    obtain ⟨⟨⟨q1, q2⟩, q3⟩, q4⟩ := q
    have q3 := of_decide_eq_true q3
    by_cases q5 : (m == "append" || m == "insert" || m == "extend") = true
    · rw [if_pos q5] at h
      obtain ⟨ia, is, a0, ar, h1, h2, rfl, hh⟩ : ∃ ia is a0 ar, f C o = some ia ∧ allE (f C) args = some is ∧ args = a0 :: ar ∧ some (IE.lm (if (m == "append") = true then .append else if (m == "insert") = true then .insert else .extend) ia is) = some i := by
        cases h1 : f C o with
        | none => rw [h1] at h; cases h
        | some ia =>
          cases h2 : allE (f C) args with
          | none => rw [h1, h2] at h; cases h
          | some is =>
            rw [h1, h2] at h
            cases args with
            | nil => cases h
            | cons a0 ar => exact ⟨ia, is, a0, ar, rfl, rfl, rfl, h⟩
      · cases hh
        have da := all_dl hf A tk wk q2 h2
        by_cases w1 : (m == "append") = true
        · rw [if_pos w1]
          have em := name_ne w1
          subst em
          exact de_lm (lm_append tp) PySem.F.slot_list_append (by first | exact PySem.F.type_list_append | kernel_rfl) (E h1) da (base_eq q1) q2 q3 q4
        · rw [if_neg w1]
          by_cases w2 : (m == "insert") = true
          · rw [if_pos w2]
            have em := name_ne w2
            subst em
            exact de_lm (lm_insert tp) PySem.F.slot_list_insert (by first | exact PySem.F.type_list_insert | kernel_rfl) (E h1) da (base_eq q1) q2 q3 q4
          · rw [if_neg w2]
            have w3 : (m == "extend") = true := by simpa [w1, w2] using q5
            have em := name_ne w3
            subst em
            exact de_lm (lm_extend tp) PySem.F.slot_list_extend (by first | exact PySem.F.type_list_extend | kernel_rfl) (E h1) da (base_eq q1) q2 q3 q4
    · rw [if_neg q5] at h
      by_cases q6 : (m == "join" || m == "index") = true
      · rw [if_pos q6] at h
        obtain ⟨ia, is, a0, ar, h1, h2, rfl, hh⟩ : ∃ ia is a0 ar, f C o = some ia ∧ allE (f C) args = some is ∧ args = a0 :: ar ∧ some (IE.pm (if (m == "join") = true then .join else .index) ia is) = some i := by
          cases h1 : f C o with
          | none => rw [h1] at h; cases h
          | some ia =>
            cases h2 : allE (f C) args with
            | none => rw [h1, h2] at h; cases h
            | some is =>
              rw [h1, h2] at h
              cases args with
              | nil => cases h
              | cons a0 ar => exact ⟨ia, is, a0, ar, rfl, rfl, rfl, h⟩
        · cases hh
          have da := all_da hf A tk wk q2 h2
          by_cases w1 : (m == "join") = true
          · rw [if_pos w1]
            have em := name_ne w1
            subst em
            exact de_pm pm_join PySem.F.plainAttrs_str PySem.F.slot_str_join (by first | exact PySem.F.type_str_join | kernel_rfl) (E h1) da (base_eq q1) q2 q3 q4
          · rw [if_neg w1]
            have w3 : (m == "index") = true := by simpa [w1] using q6
            have em := name_ne w3
            subst em
            exact de_pm (pm_index (unit65 A)) PySem.F.plainAttrs_list PySem.F.slot_list_index (by first | exact PySem.F.type_list_index | kernel_rfl) (E h1) da (base_eq q1) q2 q3 q4
      · rw [if_neg q6] at h
        split at h
        · rename_i ia is mk h1 h2 h3
          cases h
          exact de_meth (att_of A h3) (room0 A) tk (fun c q g e1 e2 => A.F.meth c q mk g e1 e2) (base_eq q1) q2 q3 q4 (E h1) (all_da hf A tk wk q2 h2)
        · cases h
  · cases h
theorem stepT_ok (hf : GoodE T NM TB P Φ Ψ k f) (ht : GoodT T NM TB P Φ Ψ k t) : GoodT T NM TB P Φ Ψ k (stepT f t) := by
  intro C e i h X W A tk wk
  unfold stepT at h
  split at h
  · obtain ⟨ia, h1, rfl⟩ := map_some h
    exact dt_not (ht _ _ _ h1 X W A tk wk)
  · exact (boolT_ok ht A tk wk h).pt
  · cases h
  · obtain ⟨ia, h1, rfl⟩ := map_some h
    exact (cmp_ok hf A tk wk h1).2
  · rename_i n1 n2 n3 n4
    obtain ⟨ia, h1, rfl⟩ := map_some h
    refine dt_val (hf _ _ _ h1 X W A tk wk) fun whole => ?_
    cases e with
    | UnaryOp op a p => cases op <;> first | rfl | exact absurd rfl (n1 a p)
    | BoolOp op vs p => exact absurd rfl (n2 op vs p)
    | IfExp c a b p => exact absurd rfl (n3 c a b p)
    | Compare a ops cs p => exact absurd rfl (n4 a ops cs p)
    | _ => rfl
theorem cET_ok : ∀ n, GoodE T NM TB P Φ Ψ k (cET T n).1 ∧ GoodT T NM TB P Φ Ψ k (cET T n).2
  | 0 => ⟨fun _ _ _ h => (by cases h), fun _ _ _ h => (by cases h)⟩
  | n + 1 => ⟨stepE_ok (cET_ok n).1 (cET_ok n).2, stepT_ok (cET_ok n).1 (cET_ok n).2⟩
end
end Z

set_option linter.all false
set_option maxRecDepth 100000
set_option maxHeartbeats 4000000
namespace Z
open PySem PySem.Spec PyProof.Rows
open L2 (V Hp HO Key VK XK TE TT TA TS TG TGs TO TI WX Cx Inv Ends SqL SqT Same upd upd_same upd_ne ne_of ne_of_none OpR UnR CallR R2 Dp DpAll IxR SlR PE PT PW PA PS PSs PG PGs PI PO PTs PK FnOk Room Vals RelV Sp EP thn MtR)
open L2 (Takes XE BlkOk)
def isLc (C : Ctx) (x : Str) : Bool := decide (C.sc.names.lookup x = some .local)
def parN (C : Ctx) (line : Nat) : Expr → Option (Str × Nat)
  | .Name x p => if isLc C x && (p.line == line) then (idx C.N x).map (x, ·) else none
  | _ => none
section
variable (T : CT) (f : Ctx → Expr → Option IE) (t : Ctx → Expr → Option IT) (mu : List Nat) (rl : Bool) (C : Ctx)
def cSet (x : Str) (p' : Pos) (e : Expr) : Option IS := match e with
  | .ListComp elt [⟨tg, iter, ifs, 0⟩] scope lp => (match cComp T f t C elt tg iter ifs scope, idx C.N x with
    | some i, some j => if isLc C x && (p'.line == lp.line) && !(scope.names.any fun (n, k) => n == x && (k == .local || k == .cell)) then some (.asg j (mu.contains j) i)
        else if decide (C.sc.names.lookup x = some .cell) && C.fnOk x then some (.asg j (mu.contains j) i) else none
    | _, _ => none)
  | e => if swFree e && isLoc C x then (match f C e, idx C.N x with
    | some i, some j => some (.asg j (mu.contains j) i)
    | _, _ => none) else none
def cPar (es vs : List Expr) : Option IS := match es, vs with
  | [.Name x px, .Name y py], [a, b] => if isLc C x && isLc C y && (py.line == px.line) && !(x == y) && !isStar a && !isStar b && !([a, b].all (foldedForSure 8)) && !([a, b].all (constantsAlone 8)) then
      (match idx C.N x, idx C.N y, f C a, f C b with
      | some i, some j, some u, some v => some (.par [(i, mu.contains i), (j, mu.contains j)] [u, v])
      | _, _, _, _ => none) else none
  | _, _ => none
def stepS (g : List Stmt → Option (List IS)) : Stmt → Option IS
  | .Expr e _ => if swFree e then (f C e).map .expr else none
  | .Return none _ => some .retN
  | .Return (some e) _ => (f C e).map (.ret rl)
  | .Assign [.Name x p'] e _ => cSet T f t mu C x p' e
  | .Assign [.Tuple es _ _] (.Tuple vs _ _) _ => cPar f mu C es vs
  | .Assign [.Tuple es k p'] e _ => if !isTup e then (match allE (cNm C) es, f C e with
    | some is, some i => some (.asgT is i)
    | _, _ => none) else none
  | .Assign [.Attribute o x _] e _ => (match f C o, f C e, attN T x with
    | some i, some j, some m => some (.setFld i m j)
    | _, _, _ => none)
  | .Assign [.Subscript o b _] e _ => if notSl b then (match f C o, f C b, f C e with
    | some i, some j, some v => some (.setIx i j v)
    | _, _, _ => none) else none
  | .AugAssign (.Name x _) op e _ => if isLoc C x then (match idx C.N x, bopD op, f C e with
    | some j, some o, some i => (match o with
      | .add => some (.augN j .add i)
      | .sub => some (.augN j .sub i)
      | _ => none)
    | _, _, _ => none) else none
  | .AugAssign (.Subscript a b _) op e _ => if notSl b then (match f C a, f C b, bopD op, f C e with
    | some i, some j, some o, some v => (match o with
      | .add => some (.augIx i j .add v)
      | .sub => some (.augIx i j .sub v)
      | _ => none)
    | _, _, _, _ => none) else none
  | .If c a b _ => (match t C c, g a, g b with
    | some k, some is, some js => some (.ifs k is js)
    | _, _, _ => none)
  | .For tg iter body [] _ => if notSet iter then (match cTg C tg, cIt T f C tg iter, g body with
    | some tt, some it, some is => some (.forS tt it is)
    | _, _, _ => none) else none
  | .While c body [] _ => (match t C c, g body with
    | some k, some is => some (.whil k is)
    | _, _ => none)
  | .Raise (some (.Call (.Name x _) (e :: es) [] _)) none _ => if isGl C x && noStars (e :: es) then (match T.cl.lookup x, allE (f C) (e :: es) with
    | some c, some is => if T.exc.contains c then some (.rais c is) else none
    | _, _ => none) else none
  | .Pass _ => some .pass
  | .Break _ => some .brk
  | .Continue _ => some .cnt
  | _ => none
def listS (h : Stmt → Option IS) : List Stmt → Option (List IS)
  | [] => some []
  | .Expr (.Constant (.str _) _ _) _ :: r => listS h r
  | s :: r => match h s, listS h r with
    | some i, some is => some (i :: is)
    | _, _ => none
def cB : Nat → List Stmt → Option (List IS)
  | 0, _ => none
  | n + 1, ss => listS (stepS T f t mu rl C (cB n)) ss
end
/-- the context of a body -/
structure AtB (T : CT) (NM : Nm) (TB : Hp → Prop) (P : Prog) (Φ Ψ : Fun) (k : Nat) (E : XK) (C : Ctx) (X : Cx) : Prop where
  at_ : At T NM TB P Φ Ψ k C X
  pass : PassesOwn (model X.prog X.w) X.A X.env X.xe
  takes : Takes X (WE E)
  kind : X.env.scope.kind = .function
section
variable {T : CT} {NM : Nm} {TB : Hp → Prop} {P : Prog} {Φ Ψ : Fun} {k : Nat} {E : XK} {C : Ctx} {X : Cx} {f : Ctx → Expr → Option IE} {t : Ctx → Expr → Option IT} {mu : List Nat} {rl : Bool}
theorem sw_other {e tg : Expr} {l : Nat} {env : PySem.Env} (h : ∀ x p, tg ≠ .Name x p) : swapsWith e (some tg) l env = pure false := by
  cases tg with
  | Name x p => exact absurd rfl (h x p)
  | _ => cases e <;> rfl
theorem sole {tg e : Expr} {l : Nat} {env : PySem.Env} : swapsWithSole [tg] e l env = swapsWith e (some tg) l env := rfl
theorem sw_cell {elt : Expr} {gs : List Comprehension} {scope : Scope} {lp py : Pos} {y : Str} {l : Nat} {env : PySem.Env} (hy : env.scope.names.lookup y = some .cell) : swapsWith (.ListComp elt gs scope lp) (some (.Name y py)) l env = pure false := by
  have ky : env.kindOf y = some .cell := hy
  unfold swapsWith
  simp only [ky]
  have : (some NameKind.cell == some NameKind.local) = false := by decide
  simp [this]
theorem set_ok' (hf : GoodE T NM TB P Φ Ψ k f) (ht : GoodT T NM TB P Φ Ψ k t) (A : AtB T NM TB P Φ Ψ k E C X) {x : Str} {p' pos : Pos} {e : Expr} {i : IS} (h : cSet T f t mu C x p' e = some i) : DS X NM TB E P Φ Ψ (.Assign [.Name x p'] e pos) i := by
  have hN : X.N.Nodup := by rw [A.at_.N]; exact A.at_.nd
  have tp := A.at_.F.tp
  unfold cSet at h
  split at h
  · rename_i elt tg iter ifs scope lp
    split at h
    · rename_i ie j h1 h2
      have hj : X.N[j]? = some x := by rw [A.at_.N]; exact idx_of h2
      by_cases q : (isLc C x && (p'.line == lp.line) && !(scope.names.any fun (n, k) => n == x && (k == .local || k == .cell))) = true
      · rw [if_pos q] at h
        cases h
        rw [Bool.and_eq_true, Bool.and_eq_true] at q
        obtain ⟨⟨q1, q2⟩, q3⟩ := q
        have hl : X.env.scope.names.lookup x = some .local := by rw [A.at_.sc]; exact of_decide_eq_true q1
        obtain ⟨it, g, cond, ie', rfl, a1, a2, a3, a4, a5⟩ := comp_parts hf ht A.at_ A.takes wk_e h1
        exact ds_setLc tp A.at_.calm hN hj hl (L2.sw_true A.kind hl q2 (by simpa using q3)) a2 a1 a3 a4 (folded_ok a5)
      · rw [if_neg q] at h
        by_cases q2 : (decide (C.sc.names.lookup x = some .cell) && C.fnOk x) = true
        · rw [if_pos q2] at h
          cases h
          rw [Bool.and_eq_true] at q2
          have hl : X.env.scope.names.lookup x = some .cell := by rw [A.at_.sc]; exact of_decide_eq_true q2.1
          exact ds_set hN hj (.inr hl) (.inl (A.at_.fn x q2.2)) (comp_ok hf ht A.at_ A.takes wk_e h1) (sw_cell hl)
        · rw [if_neg q2] at h; cases h
    · cases h
  · by_cases q : (swFree e && isLoc C x) = true
    · rw [if_pos q] at h
      rw [Bool.and_eq_true] at q
      obtain ⟨l1, l2⟩ := loc_of A.at_ q.2
      split at h
      · rename_i ie j h1 h2
        cases h
        exact ds_set hN (by rw [A.at_.N]; exact idx_of h2) l1 l2 (hf _ _ _ h1 X _ A.at_ A.takes wk_e) (sw_none q.1 _)
      · cases h
    · rw [if_neg q] at h; cases h
theorem par_ok (hf : GoodE T NM TB P Φ Ψ k f) (A : AtB T NM TB P Φ Ψ k E C X) {es vs : List Expr} {kk k2 : Nat} {p' p2 pos : Pos} {i : IS} (h : cPar f mu C es vs = some i) : DS X NM TB E P Φ Ψ (.Assign [.Tuple es kk p'] (.Tuple vs k2 p2) pos) i := by
  have hN : X.N.Nodup := by rw [A.at_.N]; exact A.at_.nd
  unfold cPar at h
  split at h
  · rename_i x px y py a b
    by_cases q : (isLc C x && isLc C y && (py.line == px.line) && !(x == y) && !isStar a && !isStar b && !([a, b].all (foldedForSure 8)) && !([a, b].all (constantsAlone 8))) = true
    · rw [if_pos q] at h
      simp only [Bool.and_eq_true] at q
      obtain ⟨⟨⟨⟨⟨⟨⟨q1, q2⟩, q3⟩, q4⟩, q5⟩, q6⟩, q7⟩, q8⟩ := q
      have hx : X.env.scope.names.lookup x = some .local := by rw [A.at_.sc]; exact of_decide_eq_true q1
      have hy : X.env.scope.names.lookup y = some .local := by rw [A.at_.sc]; exact of_decide_eq_true q2
      have hxy : x ≠ y := by simpa using q4
      split at h
      · rename_i i j u v h1 h2 h3 h4
        cases h
        have hi : X.N[i]? = some x := by rw [A.at_.N]; exact idx_of h1
        have hj : X.N[j]? = some y := by rw [A.at_.N]; exact idx_of h2
        have hij : i ≠ j := fun e => by
          subst e
          rw [hi] at hj
          exact hxy (Option.some.inj hj)
        have n1 : isStar a = false := by simpa using q5
        have n2 : isStar b = false := by simpa using q6
        refine ds_par2 A.at_.calm hN hi hj hij hx hy (hf _ _ _ h3 X _ A.at_ A.takes wk_e) (hf _ _ _ h4 X _ A.at_ A.takes wk_e) n1 n2 ?_ (by rw [sole]; exact sw_none rfl _)
        have bk : X.env.blockKind = .function := by unfold Env.blockKind; rw [A.kind]; rfl
        have kx : X.env.kindOf x = some .local := hx
        have ky : X.env.kindOf y = some .local := hy
        have st : ([a, b].any fun | .Starred .. => true | _ => false) = false := by
          cases a <;> cases b <;> first | rfl | (cases n1; done) | (cases n2; done)
        have e7 : [a, b].all (foldedForSure 8) = false := by rw [Bool.not_eq_true'] at q7; exact q7
        have e8 : [a, b].all (constantsAlone 8) = false := by rw [Bool.not_eq_true'] at q8; exact q8
        have ed : ([x, y] : List Str).eraseDups.length = 2 := by
          have hyx : (y == x) = false := by simpa using Ne.symm hxy
          have hxy' : (x == y) = false := by simpa using hxy
          simp [List.eraseDups, List.eraseDupsBy, List.eraseDupsBy.loop, hyx, hxy']
        unfold swappedStores
        simp only [List.length_cons, List.length_nil, bk, st, e7, e8, List.head?_cons, Option.map_some, Option.getD_some, Expr.pos, List.filterMap_cons, List.filterMap_nil, kx, ky, q3, ed]
        simp
        refine (if_neg ?_).trans (if_pos ed)
        rintro (h | h)
        · cases a <;> first | (cases h; done) | (cases n1; done)
        · cases b <;> first | (cases h; done) | (cases n2; done)
      · cases h
    · rw [if_neg q] at h; cases h
  · cases h
theorem stepS_ok (hf : GoodE T NM TB P Φ Ψ k f) (ht : GoodT T NM TB P Φ Ψ k t) (A : AtB T NM TB P Φ Ψ k E C X) {g : List Stmt → Option (List IS)} (hg : ∀ ss is, g ss = some is → DB X NM TB E P Φ Ψ ss is) {s : Stmt} {i : IS} (h : stepS T f t mu rl C g s = some i) : DS X NM TB E P Φ Ψ s i := by
  have tp := A.at_.F.tp
  have hN : X.N.Nodup := by rw [A.at_.N]; exact A.at_.nd
  have EE : ∀ {a : Expr} {ia : IE}, f C a = some ia → DE X NM TB (WE E) P Φ Ψ a ia := fun h => hf _ _ _ h X _ A.at_ A.takes wk_e
  have TT : ∀ {a : Expr} {ia : IT}, t C a = some ia → DT X NM TB (WE E) P Φ Ψ a ia := fun h => ht _ _ _ h X _ A.at_ A.takes wk_e
  have hu1 : X.A.units + 1 < cLine := by have := unit65 A.at_; omega
  unfold stepS at h
  split at h
  · rename_i e p
    by_cases q : swFree e = true
    · rw [if_pos q] at h
      obtain ⟨ie, h1, rfl⟩ := map_some h
      exact ds_expr (EE h1) (sw_none q _)
    · rw [if_neg q] at h; cases h
  · cases h; exact ds_retN
  · obtain ⟨ie, h1, rfl⟩ := map_some h
    exact ds_ret (EE h1)
  · exact set_ok' hf ht A h
  · exact par_ok hf A h
  · rename_i es kk p' e pos _
    by_cases q : isTup e = true
    · rw [if_neg (by rw [q]; exact Bool.false_ne_true)] at h; cases h
    · have q' : isTup e = false := by simpa using q
      rw [if_pos (by rw [q']; rfl)] at h
      split at h
      · rename_i is ie h1 h2
        cases h
        have nm := nm_of A.at_ h1
        obtain ⟨e1, e2⟩ := nms_each nm
        refine ds_setT A.at_.calm hN nm e1 e2 (EE h2) (by rw [sole]; exact sw_other fun x p e => by cases e) ?_
        cases e <;> first | rfl | (cases q'; done)
      · cases h
  · rename_i o x p' e pos
    split at h
    · rename_i io ie m h1 h2 h3
      cases h
      exact ds_fld tp A.at_.F.ck (att_of A.at_ h3) (EE h2) (EE h1) (sw_other fun x p e => by cases e)
    · cases h
  · rename_i o b p' e pos
    by_cases q : notSl b = true
    · rw [if_pos q] at h
      split at h
      · rename_i io ib ie h1 h2 h3
        cases h
        refine ds_ix tp hu1 (EE h3) (EE h1) (EE h2) (by rw [sole]; exact sw_other fun x p e => by cases e) (by cases e <;> rfl) (fun v => ?_) rfl
        cases b <;> first | rfl | (cases q; done)
      · cases h
    · rw [if_neg q] at h; cases h
  · rename_i x p' op e pos
    by_cases q : isLoc C x = true
    · rw [if_pos q] at h
      obtain ⟨l1, l2⟩ := loc_of A.at_ q
      split at h
      · rename_i j o ie h1 h2 h3
        have eo := bop_of h2
        subst eo
        have hj : X.N[j]? = some x := by rw [A.at_.N]; exact idx_of h1
        split at h
        · cases h; exact ds_augN .add hN hj l1 l2 (.inl rfl) (EE h3)
        · cases h; exact ds_augN .sub hN hj l1 l2 (.inr rfl) (EE h3)
        · cases h
      · cases h
    · rw [if_neg q] at h; cases h
  · rename_i a b p' op e pos
    by_cases q : notSl b = true
    · rw [if_pos q] at h
      split at h
      · rename_i ia ib o ie h1 h2 h3 h4
        have eo := bop_of h3
        subst eo
        have hst : ∀ ov iv new, augStore b ov iv new = (do holding [new, ov, iv] (setItem ov iv new); release [new, ov, iv] []; pure .next) := fun ov iv new => by
          cases b <;> first | rfl | (cases q; done)
        split at h
        · cases h; exact ds_augIx tp hu1 .add (.inl rfl) (EE h1) (EE h2) (EE h4) hst
        · cases h; exact ds_augIx tp hu1 .sub (.inr rfl) (EE h1) (EE h2) (EE h4) hst
        · cases h
      · cases h
    · rw [if_neg q] at h; cases h
  · split at h
    · rename_i kc is js h1 h2 h3
      cases h
      exact ds_if (TT h1) (hg _ _ h2) (hg _ _ h3)
    · cases h
  · rename_i tg iter body p
    by_cases q : notSet iter = true
    · rw [if_pos q] at h
      split at h
      · rename_i tt it is h1 h2 h3
        cases h
        exact ds_for A.pass A.at_.calm (it_ok hf A.at_ A.takes wk_e h2) (tg_ok A.at_ h1) (hg _ _ h3) (folded_ok q)
      · cases h
    · rw [if_neg q] at h; cases h
  · split at h
    · rename_i kc is h1 h2
      cases h
      exact ds_while A.pass (TT h1) (hg _ _ h2)
    · cases h
  · rename_i x p' e es p1 p2
    by_cases q : (isGl C x && noStars (e :: es)) = true
    · rw [if_pos q] at h
      rw [Bool.and_eq_true] at q
      obtain ⟨g1, g2⟩ := gl_of A.at_ q.1
      split at h
      · rename_i c is h1 h2
        by_cases q2 : T.exc.contains c = true
        · rw [if_pos q2] at h
          cases h
          obtain ⟨qc, e1, e2⟩ := A.at_.F.exc c (by simpa using q2)
          exact ds_rais tp A.at_.calm A.takes e1 (A.at_.F.oex c qc e1 e2) (room1 A.at_) g1 (A.at_.F.cl x c h1) g2 (all_dl hf A.at_ A.takes wk_e q.2 h2) q.2
        · rw [if_neg q2] at h; cases h
      · cases h
    · rw [if_neg q] at h; cases h
  · cases h; exact ds_pass
  · cases h; exact ds_brk
  · cases h; exact ds_cnt
  · cases h
theorem listS_ok {hS : Stmt → Option IS} (h1 : ∀ s i, hS s = some i → DS X NM TB E P Φ Ψ s i) : ∀ {ss : List Stmt} {is : List IS}, listS hS ss = some is → DB X NM TB E P Φ Ψ ss is
  | [], is, h => by cases h; exact db_nil
  | s :: r, is, h => by
    unfold listS at h
    split at h
    · rename_i e; cases e
    · rename_i e
      cases e
      exact db_doc (listS_ok h1 h)
    · rename_i e
      cases e
      split at h
      · rename_i i ir e1 e2
        cases h
        exact db_cons (h1 _ _ e1) (listS_ok h1 e2)
      · cases h
theorem cB_ok (hf : GoodE T NM TB P Φ Ψ k f) (ht : GoodT T NM TB P Φ Ψ k t) (A : AtB T NM TB P Φ Ψ k E C X) : ∀ n ss is, cB T f t mu rl C n ss = some is → DB X NM TB E P Φ Ψ ss is
  | 0, _, _, h => by cases h
  | n + 1, ss, is, h => listS_ok (fun s i h => stepS_ok hf ht A (cB_ok hf ht A n) h) h
end
end Z

set_option linter.all false
set_option maxRecDepth 100000
set_option maxHeartbeats 4000000
namespace Z
open PySem PySem.Spec PyProof.Rows
open L2 (V Hp HO Key VK XK TE TT TA TS TG TGs TO TI WX Cx Inv Ends SqL SqT Same upd upd_same upd_ne ne_of ne_of_none OpR UnR CallR R2 Dp DpAll IxR SlR PE PT PW PA PS PSs PG PGs PI PO PTs PK FnOk Room Vals RelV Sp EP thn MtR)
open L2 (Takes XE BlkOk)
section
variable (T : CT) (NM : Nm) (P : Prog) (K : PySem.W.Frag) (mg : Str → Option Value) (FA : Nat → Addr) (FD : Nat → FuncData) (good : Nat → Prop)
/-- what the tables say, before anything runs -/
structure Stat : Prop where
  pl : ∀ g, good g → Plain (FD g).params (T.pss g) ∧ (T.pss g).Nodup ∧ (FD g).defaults = .none ∧ PySem.W.keepIn K (.ref (FA g)) = true ∧ (T.pss g).length = npOf P g
  fn : ∀ x g, T.fn.lookup x = some g → good g ∧ mg x = some (.ref (FA g))
  cl : ∀ x c, T.cl.lookup x = some c → mg x = some (.ref (NM.cls c))
  ini : ∀ c n, T.ini c = some n → ∃ q, P.clss[c]? = some q ∧ q.init = some n
  make : ∀ c q n, P.clss[c]? = some q → q.init = some n → good n ∧ L2.Mk K (NM.cls c) (FA n)
  meth : ∀ c q m g, P.clss[c]? = some q → q.meths.lookup m = some g → good g ∧ L2.Cls K (NM.cls c) ∧ L2.Meth K (NM.cls c) (NM.att m) (FA g)
  eq : ∀ c q g, P.clss[c]? = some q → q.eq = some g → good g ∧ npOf P g = 2 ∧ PySem.W.findIn K (.ref (NM.cls c)) "__eq__" = some (some (.ref (FA g))) ∧ PySem.W.isFn K (.ref (FA g)) = true ∧
    PySem.W.findIn K (.ref (NM.cls c)) "__ne__" = some (some (.builtin "object.__ne__")) ∧ PySem.W.mroIn K (NM.cls c) (.type "object") = some true
  st : ∀ c q g, P.clss[c]? = some q → q.meths.lookup T.strm = some g → npOf P g = 1 ∧ PySem.W.findIn K (.ref (NM.cls c)) "__str__" = some (some (.ref (FA g))) ∧ PySem.W.isFn K (.ref (FA g)) = true
  ck : ClsOk K NM P
  io : ∀ c, plainC P c = true → InsOk K (NM.cls c)
  isok : ∀ cr ∈ T.crs, IsOk K NM P cr
  bl : ∀ x ∈ T.bl, mg x = none
  con : ∀ x d, T.con.lookup x = some d → ∃ u v, mg x = some u ∧ RelV v u ∧ ∀ F, RepV K NM F v d
  exc : ∀ c ∈ T.exc, ∃ q, P.clss[c]? = some q ∧ q.flds ≠ []
  att : ∀ k s, T.att[k]? = some s → NM.att k = s
  hd : ∀ x b h, T.hd.lookup x = some (b, h) → HdAt T NM P K mg x b h
/-- the own exceptions -/
def OexS (pg : Program) (w : World) (base : Heap) : Prop := ∀ c q, P.clss[c]? = some q → q.flds ≠ [] → L2.OexC K (NM.cls c) ∧ (∀ f ∈ q.flds.map NM.att, PySem.W.findIn K (.ref (NM.cls c)) f = some none) ∧ q.flds.length ≤ 900 ∧
  ∃ (fI : Addr) (fd : FuncData) (ps : List Str), PySem.W.findIn K (.ref (NM.cls c)) "__init__" = some (some (.ref fI)) ∧ PySem.W.typeIn K (.ref fI) = some (.type "function") ∧ FnOk pg w K mg base (L2.CX pg w) 1 fI fd ps (spO K (q.flds.map NM.att)) ∧
    Plain fd.params ps ∧ ps.Nodup ∧ fd.defaults = .none ∧ ps.length = (q.flds.map NM.att).length + 1
end
section
variable {T : CT} {NM : Nm} {TB : Hp → Prop} {P : Prog} {FA : Nat → Addr} {FD : Nat → FuncData} {good : Nat → Prop}
/-- the promise of every function, at a level -/
def Prom (T : CT) (NM : Nm) (TB : Hp → Prop) (FA : Nat → Addr) (FD : Nat → FuncData) (good : Nat → Prop) (pg : Program) (w : World) (K : PySem.W.Frag) (mg : Str → Option Value) (base : Heap) (k : Nat) (Φ : Fun) : Prop :=
  ∀ g, good g → FnOk pg w K mg base (L2.CX pg w) k (FA g) (FD g) (T.pss g) (spD K NM TB (T.pss g).length (Φ g))
theorem facts_of {X : Cx} {Φ Ψ : Fun} {k : Nat} (tp : TbP TB) (S : Stat T NM P X.K X.mg FA FD good) (O : OexS NM P X.K X.mg X.prog X.w X.base) (hk : 1 ≤ k) (h1 : Prom T NM TB FA FD good X.prog X.w X.K X.mg X.base k Φ) (h2 : Prom T NM TB FA FD good X.prog X.w X.K X.mg X.base k Ψ) : Facts T NM TB P Φ Ψ k X := by
  have fnat : ∀ {Φ : Fun}, Prom T NM TB FA FD good X.prog X.w X.K X.mg X.base k Φ → ∀ g, good g → FnAt X k (FA g) (FD g) (T.pss g) (spD X.K NM TB (T.pss g).length (Φ g)) := fun h g hg => by
    obtain ⟨a1, a2, a3, a4, a5⟩ := S.pl g hg
    exact ⟨h g hg, a1, a2, a3, a4⟩
  refine ⟨tp, fun x g e => ?_, S.cl, S.ini, fun c q n e1 e2 => ?_, fun c q m g e1 e2 => ?_, fun c q g e1 e2 => ?_, fun c q g e1 e2 => ?_, S.ck, S.io, S.isok, S.bl, S.con, fun c q e1 e2 => ?_, S.exc, S.att, S.hd⟩
  · obtain ⟨a1, a2⟩ := S.fn x g e
    exact ⟨_, _, a2, fnat h1 g a1⟩
  · obtain ⟨a1, a2⟩ := S.make c q n e1 e2
    have f := fnat h2 n a1
    exact ⟨_, _, ⟨a2, f.ok, f.plain, f.nd, f.dv⟩⟩
  · obtain ⟨a1, a2, a3⟩ := S.meth c q m g e1 e2
    obtain ⟨_, _, _, _, a5⟩ := S.pl g a1
    exact ⟨_, _, _, a5, ⟨a2, a3, fnat h1 g a1⟩⟩
  · obtain ⟨a1, a2, a3, a4, a5, a6⟩ := S.eq c q g e1 e2
    obtain ⟨_, _, _, _, a7⟩ := S.pl g a1
    exact ⟨_, _, _, ⟨fnat h2 g a1, a7.trans a2, a3, a4, a5, a6⟩⟩
  · obtain ⟨a2, a3, a4⟩ := S.st c q g e1 e2
    obtain ⟨a1, _⟩ := S.meth c q _ g e1 e2
    obtain ⟨_, _, _, _, a7⟩ := S.pl g a1
    exact ⟨_, _, _, ⟨fnat h1 g a1, a7.trans a2, a3, a4⟩⟩
  · obtain ⟨a1, a2, a3, fI, fd, ps, b1, b2, b3, b4, b5, b6, b7⟩ := O c q e1 e2
    exact ⟨a1, a2, fun z => e2 (List.map_eq_nil_iff.mp z), by rw [List.length_map]; exact a3, fI, fd, ps, b1, b2, b3.mono hk, b4, b5, b6, b7⟩
/-- a def that makes lambdas -/
def LamFn (TB : Hp → Prop) (mg : Str → Option Value) (base : Heap) (cdv : Value) (qual : Str) : Prop := ∃ (TL : List (Addr × Str)) (c Pt : Addr), (∀ H, TB H ↔ LamX.Tabs TL H) ∧ LamX.TabB base mg c Pt ∧ cdv = .ref c ∧ (Pt, qual ++ ".<locals>." ++ "<lambda>") ∈ TL ∧ ∀ p ∈ TL, p.1 = Pt → p.2 = qual ++ ".<locals>." ++ "<lambda>"
theorem lam_at {X : Cx} {mg : Str → Option Value} {base : Heap} {cdv : Value} {qual : Str} (h : LamFn TB mg base cdv qual) (h1 : X.base = base := by rfl) (h2 : X.mg = mg := by rfl) (h3 : X.env.code = cdv := by rfl) (h4 : X.env.qual = qual ++ ".<locals>." := by rfl) : LamAt TB X := by
  obtain ⟨TL, c, Pt, a1, a2, a3, a4, a5⟩ := h
  refine ⟨TL, c, Pt, a1, ?_, h3.trans a3, ?_, ?_⟩
  · rw [h1, h2]; exact a2
  · rw [h4]; exact a4
  · rw [h4]; exact a5
/-- a function, as it stands in the heap, and its translation -/
structure FnInfo (T : CT) (TB : Hp → Prop) (P : Prog) (K : PySem.W.Frag) (mg : Str → Option Value) (base : Heap) (a : Addr) (fd : FuncData) (g : Nat) : Prop where
  h : ∃ oc od osl name qual params body scope dV kV doc pm an cdv ct n mu rl lam N q, (lam = true → LamFn TB mg base cdv qual) ∧ K.lookup a = some ⟨oc, od, .func (PySem.W.fnOf name qual params body scope dV kV doc pm an cdv ct), osl⟩ ∧ fd = PySem.W.fnOf name qual params body scope dV kV doc pm an cdv ct ∧
    PySem.W.codeIn K cdv qual = true ∧ L2.FnScope N (T.pss g) scope ∧ P.funs[g]? = some q ∧ q.N = N.length ∧ q.np = (T.pss g).length ∧ cB T (cET T n).1 (cET T n).2 mu rl ⟨N, scope, none, lam⟩ n body = some q.body
theorem repRs_get {K : PySem.W.Frag} {G : Gw} {n : Nat} : ∀ {vs : List V} {ds : List Dat} {i : Nat} {d : Dat}, RepRs K NM G n vs ds → ds[i]? = some d → ∃ v, vs[i]? = some v ∧ RepR K NM G n v d
  | _, _, _, _, .nil, e => by simp at e
  | _, _, 0, _, .cons r _, e => by simp at e; subst e; exact ⟨_, rfl, r⟩
  | _, _, i + 1, d, .cons _ t, e => by
    obtain ⟨v, h1, h2⟩ := repRs_get (i := i) (d := d) t (by simpa using e)
    exact ⟨v, by simpa using h1, h2⟩
theorem start_rep {K : PySem.W.Frag} {G : Gw} {n m : Nat} {vs : List V} {ds : List Dat} {N : List Str} (r : RepRs K NM G n vs ds) (hm : m = N.length) (hl : ds.length ≤ m) : RepE K NM G n (L2.start N vs) (ds.map some ++ List.replicate (m - ds.length) none) := by
  subst hm
  have hv := r.length
  refine ⟨by unfold L2.start; simp [hv], fun i d e => ?_⟩
  by_cases hi : i < ds.length
  · rw [List.getElem?_append_left (by simpa using hi), List.getElem?_map] at e
    cases hd : ds[i]? with
    | none => rw [hd] at e; cases e
    | some d' =>
      rw [hd] at e
      cases e
      obtain ⟨v, h1, h2⟩ := repRs_get r hd
      refine ⟨v, ?_, h2⟩
      unfold L2.start
      rw [List.getElem?_append_left (by rw [List.length_map, hv]; exact hi), List.getElem?_map, h1]
      rfl
  · rw [List.getElem?_append_right (by simpa using hi), List.getElem?_replicate] at e
    split at e <;> cases e
/-- what a body's end is to its caller -/
theorem run_end {K : PySem.W.Frag} {Φ Ψ : Fun} {q : FunI} {ds : List Dat} {st : St} {G : Gw} {Q : VK} {E : XK} {H : Hp} (hn : ds.length = q.np) (hw : (runF P Φ Ψ q ds st).wp (KR K NM TB G st Q) (EX K NM TB G st [] fun c d _ H' => E c d H')) :
    (exB P Φ Ψ q.body (ds.map some ++ List.replicate (q.N - q.np) none) st).wp (KS K NM TB G st { nx := fun _ H' => Q .non H', rt := Q }) (EX K NM TB G st [] (WE E)) := by
  unfold runF at hw
  rw [if_pos hn] at hw
  cases e : exB P Φ Ψ q.body (ds.map some ++ List.replicate (q.N - q.np) none) st with
  | stuck => rw [e] at hw; exact hw
  | err c fs s' =>
    rw [e] at hw
    have hw : EX K NM TB G st [] (fun c d _ H' => E c d H') c fs (s'.take st.length) := hw
    intro dd H' G' gs x r a b
    exact hw dd H' G' gs x.take (r.take _) a b
  | ok p s' =>
    rw [e] at hw
    obtain ⟨fl, δ'⟩ := p
    intro σ' H' G' x r hE
    cases fl with
    | nx =>
      have hw : KR K NM TB G st Q .non (s'.take st.length) := hw
      exact hw .non H' G' x.take (r.take _) (RepV.toR .non _)
    | bk => exact hw.elim
    | ct => exact hw.elim
    | rt d =>
      intro v rv
      have dat : isD d = true → KR K NM TB G st Q d (s'.take st.length) → Q v H' := fun hd hw => hw v H' G' x.take (r.take _) (RepV.toR (RepR.toV (st := s') rv hd) _)
      cases d with
      | obj i =>
        have hw : (if i = st.length then (Res.ok (Dat.obj i) (s'.take (st.length + 1)) : Res Dat) else .stuck).wp (KR K NM TB G st Q) (EX K NM TB G st [] fun c d _ H' => E c d H') := hw
        by_cases hi : i = st.length
        · rw [if_pos hi] at hw
          obtain ⟨h1, h2⟩ := rv
          have hl : (s'.take (st.length + 1)).length = st.length + 1 := by rw [List.length_take]; omega
          exact hw v H' G' ⟨x.sub, by rw [hl]; omega, x.ι, x.B⟩ (r.take _) ⟨by rw [hl]; omega, h2⟩
        · rw [if_neg hi] at hw; exact hw.elim
      | fl _ => exact rv.elim
      | fd _ => exact rv.elim
      | _ => exact dat rfl hw
theorem stuck_prom {pg : Program} {w : World} {K : PySem.W.Frag} {mg : Str → Option Value} {base : Heap} {k np : Nat} {a : Addr} {fd : FuncData} {ps : List Str} {F : List Dat → St → Res Dat} (hl : np = ps.length) (h : ∀ ds s, F ds s = .stuck) : FnOk pg w K mg base (L2.CX pg w) k a fd ps (spD K NM TB np F) :=
  ⟨fun vs H Q E ⟨ds, st, G, h1, _⟩ => h1.trans hl, fun A outer s H args us vs Q E hr e0 hb hv ⟨ds, st, G, h1, h2, h3, h4⟩ => by rw [h] at h4; exact h4.elim⟩
/-- one function, from those that it calls -/
theorem fun_ok {pg : Program} {w : World} {K : PySem.W.Frag} {mg : Str → Option Value} {base : Heap} {k : Nat} {Φ Ψ : Fun} {g : Nat} {q : FunI} (tp : TbP TB) (S : Stat T NM P K mg FA FD good) (O : OexS NM P K mg pg w base) (hk : 1 ≤ k) (h1 : Prom T NM TB FA FD good pg w K mg base k Φ) (h2 : Prom T NM TB FA FD good pg w K mg base k Ψ)
    (I : FnInfo T TB P K mg base (FA g) (FD g) g) (hq : P.funs[g]? = some q) : FnOk pg w K mg base (L2.CX pg w) (k + 7) (FA g) (FD g) (T.pss g) (spD K NM TB (T.pss g).length (fun ds s => runF P Φ Ψ q ds s)) := by
  obtain ⟨oc, od, osl, name, qual, params, body, scope, dV, kV, doc, pm, an, cdv, ct, n, mu, rl, lam, N, q', hlam, lk, hfd, hcd, hS, hq', hN, hnp, hc⟩ := I.h
  rw [hq] at hq'
  cases hq'
  rw [hfd]
  refine L2.fn_of (k := k + 6) lk hcd hS (fun vs H Q E ⟨ds, st, G, h1, _⟩ => h1) fun A outer s H vs Q E hr hsp => ?_
  obtain ⟨ds, st, G, hl, rr, hR, hw⟩ := hsp
  have A1 : AtB T NM TB P Φ Ψ k E ⟨N, scope, none, lam⟩ (L2.cxOf (L2.CX pg w) pg w K mg base N qual scope (FA g) cdv A outer s H E) :=
    ⟨⟨rfl, hS.nd, rfl, fun _ _ => rfl, rfl, hr.mono (by omega), facts_of tp S O hk h1 h2, fun z => ⟨hr, lam_at (hlam z)⟩⟩, L2.passes_of rfl, L2.takes_of rfl rfl rfl rfl, hS.kind⟩
  have hds : ds.length = q.np := by rw [← rr.length, hl, hnp]
  have hNle : (T.pss g).length ≤ N.length := by
    have := congrArg List.length hS.pre
    rw [List.length_take] at this
    omega
  refine ⟨_, cB_ok (cET_ok n).1 (cET_ok n).2 A1 n body _ hc, ds.map some ++ List.replicate (q.N - q.np) none, st, G, ?_, hR, run_end (H := H) hds hw⟩
  have := start_rep (N := N) (m := q.N) rr hN (by rw [hds, hnp, hN]; exact hNle)
  rw [hds] at this
  exact this
end
end Z

set_option linter.all false
set_option maxRecDepth 100000
set_option maxHeartbeats 4000000
namespace Z
open PySem PySem.Spec PyProof.Rows
open L2 (V Hp HO Key VK XK TE TT TA TS TG TGs TO TI WX Cx Inv Ends SqL SqT Same upd upd_same upd_ne ne_of ne_of_none OpR UnR CallR R2 Dp DpAll IxR SlR PE PT PW PA PS PSs PG PGs PI PO PTs PK FnOk Room Vals RelV Sp EP thn MtR)
open L2 (Takes XE BlkOk Env0)
open NdefX (NF NScope CellsAt ncx envF startF inv_startN)
section
variable {T : CT} {NM : Nm} {TB : Hp → Prop} {P : Prog} {FA : Nat → Addr} {FD : Nat → FuncData} {good : Nat → Prop}
/-- a def with *rest, as it stands in the heap, and its translation; its names: T.pss, the last one the rest's -/
structure StarInfo (T : CT) (P : Prog) (K : PySem.W.Frag) (a : Addr) (g : Nat) : Prop where
  h : ∃ oc od osl name qual params body scope kV doc pm an cdv ct n mu rl N q pf pv, K.lookup a = some ⟨oc, od, .func (PySem.W.fnOf name qual params body scope .none kV doc pm an cdv ct), osl⟩ ∧
    PySem.W.codeIn K cdv qual = true ∧ T.pss g = pf ++ [pv] ∧ L2.FnScope N (pf ++ [pv]) scope ∧ StarP params pf pv ∧ pf.Nodup ∧ P.funs[g]? = some q ∧ q.N = N.length ∧ q.np = (T.pss g).length ∧ cB T (cET T n).1 (cET T n).2 mu rl ⟨N, scope, none, false⟩ n body = some q.body
/-- the promise of a def with *rest -/
def PromV (T : CT) (NM : Nm) (TB : Hp → Prop) (FA : Nat → Addr) (star : Nat → Prop) (pg : Program) (w : World) (K : PySem.W.Frag) (mg : Str → Option Value) (base : Heap) (k : Nat) (Φ : Fun) : Prop :=
  ∀ g, star g → FnR pg w K mg base (L2.CX pg w) k (FA g) (spV K NM TB ((T.pss g).length - 1) (Φ g))
theorem fun_okV {pg : Program} {w : World} {K : PySem.W.Frag} {mg : Str → Option Value} {base : Heap} {k : Nat} {Φ Ψ : Fun} {g : Nat} {q : FunI} (tp : TbP TB) (S : Stat T NM P K mg FA FD good) (O : OexS NM P K mg pg w base) (hk : 1 ≤ k) (h1 : Prom T NM TB FA FD good pg w K mg base k Φ) (h2 : Prom T NM TB FA FD good pg w K mg base k Ψ)
    (I : StarInfo T P K (FA g) g) (hq : P.funs[g]? = some q) : FnR pg w K mg base (L2.CX pg w) (k + 7) (FA g) (spV K NM TB ((T.pss g).length - 1) (fun ds s => runF P Φ Ψ q ds s)) := by
  obtain ⟨oc, od, osl, name, qual, params, body, scope, kV, doc, pm, an, cdv, ct, n, mu, rl, N, q', pf, pv, lk, hcd, hps, hS, hp, nd, hq', hN, hnp, hc⟩ := I.h
  rw [hq] at hq'
  cases hq'
  have hlen : (T.pss g).length - 1 = pf.length := by rw [hps, List.length_append]; rfl
  intro A outer s H us vs Q E hr e0 r hsp
  rw [hlen] at hsp
  refine fn_ofVn (k := k + 6) (sp := spD K NM TB (pf.length + 1) (fun ds s => runF P Φ Ψ q ds s)) lk hcd hS hp nd rfl (fun A outer s H vs Q E hr hsp => ?_) A outer s H us vs Q E hr e0 r (spV_lay tp hsp)
  obtain ⟨ds, st, G, hl, rr, hR, hw⟩ := hsp
  have A1 : AtB T NM TB P Φ Ψ k E ⟨N, scope, none, false⟩ (L2.cxOf (L2.CX pg w) pg w K mg base N qual scope (FA g) cdv A outer s H E) :=
    ⟨⟨rfl, hS.nd, rfl, fun _ _ => rfl, rfl, hr.mono (by omega), facts_of tp S O hk h1 h2, fun z => by cases z⟩, L2.passes_of rfl, L2.takes_of rfl rfl rfl rfl, hS.kind⟩
  have hds : ds.length = q.np := by rw [← rr.length, hl, hnp, hps, List.length_append]; rfl
  have hNle : (T.pss g).length ≤ N.length := by
    have := congrArg List.length hS.pre
    rw [List.length_take] at this
    rw [hps]
    omega
  refine ⟨_, cB_ok (cET_ok n).1 (cET_ok n).2 A1 n body _ hc, ds.map some ++ List.replicate (q.N - q.np) none, st, G, ?_, hR, run_end (H := H) hds hw⟩
  have := start_rep (N := N) (m := q.N) rr hN (by rw [hds, hnp, hN]; exact hNle)
  rw [hds] at this
  exact this
/-- a class's __init__ that calls super's first -/
structure SupInfo (T : CT) (NM : Nm) (P : Prog) (pg : Program) (K : PySem.W.Frag) (mg : Str → Option Value) (FA : Nat → Addr) (star : Nat → Prop) (a : Addr) (fd : FuncData) (g : Nat) : Prop where
  h : ∃ oc od osl name qual params scope kV doc pm an cda ct cc n mu rl N q p0 p1 ap cp ep w es rest ar D g2 cs iw ies irest,
    K.lookup a = some ⟨oc, od, .func (PySem.W.ksFn name qual params (.Expr (.Call (.Attribute (.Call (.Name "super" p0) [] [] p1) "__init__" ap) (w :: es) [] cp) ep :: rest) scope .none kV doc pm an (.ref cda) ct cc), osl⟩ ∧
    fd = PySem.W.ksFn name qual params (.Expr (.Call (.Attribute (.Call (.Name "super" p0) [] [] p1) "__init__" ap) (w :: es) [] cp) ep :: rest) scope .none kV doc pm an (.ref cda) ct cc ∧
    PySem.W.codeIn K (.ref cda) qual = true ∧ NScope N (T.pss g) ["__class__"] scope ∧ P.funs[g]? = some q ∧ q.N = N.length ∧ q.np = (T.pss g).length ∧
    allE ((cET T n).1 ⟨N, scope, some scope, false⟩) (w :: es) = some (iw :: ies) ∧ cB T (cET T n).1 (cET T n).2 mu rl ⟨N, scope, some scope, false⟩ n rest = some irest ∧ q.body = .expr (.supr g2 cs iw ies) :: irest ∧
    noStars (w :: es) = true ∧ (w :: es).length < 29 ∧ (ap.endLine == cp.line) = true ∧
    (params.posonlyargs ++ params.args).head? = some ar ∧ (T.pss g)[0]? = some ar.arg ∧ scope.names.lookup ar.arg = some .local ∧ scope.names.lookup ("super" : Str) = some .globalImplicit ∧
    (∃ ccl cdd vs ccs file tf, K.lookup cda = some ⟨ccl, cdd, .fields vs, ccs⟩ ∧ vs[2]? = some (.str file tf) ∧ ((pg.main.file : Str) == file) = true) ∧
    (∃ cl cld csl, K.lookup cc = some ⟨cl, cld, .cell (some (.ref D)), csl⟩) ∧ (∃ cdD, PySem.W.clsIn K D = some cdD) ∧ (pg.main.scope.names.lookup ("super" : Str)).isSome = false ∧ mg "super" = none ∧
    PySem.W.nsIn K PySem.cStatics "thirdparty.any" = some none ∧ PySem.W.typeIn K (.ref (FA g2)) = some (.type "function") ∧ PySem.W.fnIn K (FA g2) = true ∧ star g2 ∧ (T.pss g2).length = 3 ∧ ∀ c ∈ cs, SupC K (NM.cls c) D (FA g2)
theorem exB_expr {Φ Ψ : Fun} {e : IE} {r : List IS} {δ : Env} {s : St} : exB P Φ Ψ (.expr e :: r) δ s = (ev P Φ Ψ e δ s).bnd fun _ s => exB P Φ Ψ r δ s := by
  cases h : ev P Φ Ψ e δ s <;> simp [exB, exS, h, Res.bnd]
theorem startN_eq {N : List Str} {vs : List V} (h : vs.length + 1 ≤ N.length) : startF N vs [none] = L2.start N vs := by
  unfold startF L2.start
  have : N.length - vs.length = (N.length - vs.length - 1) + 1 := by omega
  rw [show N.length - vs.length - [(none : Option V)].length = N.length - vs.length - 1 from rfl, this, List.replicate_succ]
  rfl
theorem fun_okS {pg : Program} {w : World} {K : PySem.W.Frag} {mg : Str → Option Value} {base : Heap} {k : Nat} {Φ Ψ : Fun} {g : Nat} {q : FunI} {star : Nat → Prop} (tp : TbP TB) (S : Stat T NM P K mg FA FD good) (O : OexS NM P K mg pg w base) (hk : 1 ≤ k) (h1 : Prom T NM TB FA FD good pg w K mg base k Φ) (h2 : Prom T NM TB FA FD good pg w K mg base k Ψ)
    (hV : PromV T NM TB FA star pg w K mg base k Φ) (I : SupInfo T NM P pg K mg FA star (FA g) (FD g) g) (hq : P.funs[g]? = some q) : FnOk pg w K mg base (L2.CX pg w) (k + 7) (FA g) (FD g) (T.pss g) (spD K NM TB (T.pss g).length (fun ds s => runF P Φ Ψ q ds s)) := by
  obtain ⟨oc, od, osl, name, qual, params, scope, kV, doc, pm, an, cda, ct, cc, n, mu, rl, N, q', p0, p1, ap, cp, ep, wx, es, rest, ar, D, g2, cs, iw, ies, irest, lk, hfd, hcd, hS, hq', hN, hnp, hes, hrest, hbody, hns, hlt, hend, hpa, h0, hka, hks, hcode, hcell, hcl, htop, hmg, hany, hty, hfi, hst, hl2, hcs⟩ := I.h
  rw [hq] at hq'
  cases hq'
  rw [hfd]
  refine ⟨fun vs H Q E ⟨ds, st, G, h1, _⟩ => h1, fun A outer s H args us vs Q E hr e0 hb r hsp => ?_⟩
  obtain ⟨ds, st, G, hl, rr, hR, hw⟩ := hsp
  have KI : K.In s.heap := e0.mod.kin.keeps fun b o e => (e0.bs b o e).1
  have lim : s.heap.NoLimit := e0.mod.nolimit.keeps fun b o e => (e0.bs b o e).1
  obtain ⟨cl, cld, csl, hcell⟩ := hcell
  have hNle : (T.pss g).length + 1 ≤ N.length := by
    have := congrArg List.length hS.pre
    rw [List.length_take, List.length_append] at this
    simp only [List.length_singleton] at this
    omega
  have C : CellsAt [(("__class__" : Str), cc)] ["__class__"] [none] s.heap H := by
    refine ⟨rfl, fun y c e => ?_, fun x y c e1 e2 => ?_, fun i y e => ?_⟩
    · have e' : c = cc := by
        by_cases q : y = "__class__"
        · subst q; simpa using e.symm
        · simp [List.lookup, beq_eq_false_iff_ne.mpr q] at e
      subst e'
      have hb := e0.mod.kin _ _ hcell
      exact ⟨(e0.bs _ _ hb).2, _, ⟨_, (e0.bs _ _ hb).1, rfl⟩⟩
    · have one : ∀ {z : Str}, List.lookup z [(("__class__" : Str), cc)] = some c → z = "__class__" := fun {z} e => by
        by_cases q : z = "__class__"
        · exact q
        · simp [List.lookup, beq_eq_false_iff_ne.mpr q] at e
      rw [one e1, one e2]
    · cases i with
      | zero =>
        cases e
        exact ⟨cc, by simp [List.lookup], fun v e => by cases e⟩
      | succ i => simp at e
  refine ks_codeAny_call_defAt (fd := PySem.W.ksFn name qual params _ scope .none kV doc pm an (.ref cda) ct cc) (binds := (T.pss g).zip us) hr.depth (KI _ _ lk) rfl lim (PySem.W.codeRec_of KI hcd) rfl hb hS.nocell (fun y hy => hS.par y.1 (List.of_mem_zip (a := y.1) (b := y.2) hy).1) (fun h₁ hns1 hk₁ => ?_) hS.co hS.gen hS.kind
  have I0 : Inv (ncx (L2.CX pg w) pg w K mg base N ⟨name, qual, params, .Expr (.Call (.Attribute (.Call (.Name "super" p0) [] [] p1) "__init__" ap) (wx :: es) [] cp) ep :: rest, scope, [("__class__", cc)], cda⟩ (FA g) A outer s H E) [] (startF N vs [none]) H { s with heap := h₁, toks := s.toks + ((T.pss g).zip us).length } := inv_startN hS hr.hd e0 hl r C hns1 hk₁
  have hfn : ∀ x, Ctx.fnOk ⟨N, scope, some scope, false⟩ x = true → false = true := fun x e => by
    have e : (scope.names.lookup x == some NameKind.cell) = true := e
    exact absurd rfl (hS.nocell _ (PySem.mem_of_lookup (beq_iff_eq.mp e)))
  have A1 : AtB T NM TB P Φ Ψ k E ⟨N, scope, some scope, false⟩ (ncx (L2.CX pg w) pg w K mg base N ⟨name, qual, params, .Expr (.Call (.Attribute (.Call (.Name "super" p0) [] [] p1) "__init__" ap) (wx :: es) [] cp) ep :: rest, scope, [("__class__", cc)], cda⟩ (FA g) A outer s H E) :=
    ⟨⟨rfl, hS.nd, rfl, hfn, rfl, (hr.deeper _).mono (by omega), facts_of tp S O hk h1 h2, fun z => by cases z⟩, L2.passes_of rfl, L2.takes_of rfl rfl rfl rfl, hS.kind⟩
  have hds : ds.length = q.np := by rw [← rr.length, hl, hnp]
  have hvl : vs.length = ds.length := rr.length
  have hsig : RepE K NM G st.length (startF N vs [none]) (ds.map some ++ List.replicate (q.N - q.np) none) := by
    rw [startN_eq (by rw [hl]; exact hNle)]
    have := start_rep (N := N) (m := q.N) rr hN (by rw [hds, hnp, hN]; omega)
    rw [hds] at this
    exact this
  have hw1 := run_end (H := H) hds hw
  rw [hbody] at hw1
  have hw2 : ((ev P Φ Ψ (.supr g2 cs iw ies) (ds.map some ++ List.replicate (q.N - q.np) none) st).bnd fun _ s => exB P Φ Ψ irest (ds.map some ++ List.replicate (q.N - q.np) none) s).wp (KS K NM TB G st { nx := fun _ H' => Q .non H', rt := Q }) (EX K NM TB G st [] (WE E)) := by
    have eq := exB_expr (P := P) (Φ := Φ) (Ψ := Ψ) (e := .supr g2 cs iw ies) (r := irest) (δ := ds.map some ++ List.replicate (q.N - q.np) none) (s := st)
    rw [← eq]
    exact hw1
  have hw3 : (ev P Φ Ψ (.supr g2 cs iw ies) (ds.map some ++ List.replicate (q.N - q.np) none) st).wp (KX K NM TB G st fun v H' => ∃ st' G', Ext G st G' st' ∧ Rp K NM TB G' H' st' ∧ (exB P Φ Ψ irest (ds.map some ++ List.replicate (q.N - q.np) none) st').wp (KS K NM TB G st { nx := fun _ H' => Q .non H', rt := Q }) (EX K NM TB G st [] (WE E)))
      (EX K NM TB G st (startF N vs [none]) (WE E)) := by
    cases e : ev P Φ Ψ (.supr g2 cs iw ies) (ds.map some ++ List.replicate (q.N - q.np) none) st with
    | ok d s1 =>
      rw [e] at hw2
      exact fun v H' G' e1 r1 _ => ⟨s1, G', e1, r1, hw2⟩
    | err c fs s1 =>
      rw [e] at hw2
      exact hw2
    | stuck => rw [e] at hw2; exact hw2
  have TA : SupAt (ncx (L2.CX pg w) pg w K mg base N ⟨name, qual, params, .Expr (.Call (.Attribute (.Call (.Name "super" p0) [] [] p1) "__init__" ap) (wx :: es) [] cp) ep :: rest, scope, [("__class__", cc)], cda⟩ (FA g) A outer s H E) (.Expr (.Call (.Attribute (.Call (.Name "super" p0) [] [] p1) "__init__" ap) (wx :: es) [] cp) ep :: rest) ar D (FA g2) := by
    obtain ⟨ccl, cdd, vs', ccs, file, tf, k1, k2, k3⟩ := hcode
    refine ⟨⟨FA g, oc, od, _, osl, rfl, lk, hpa⟩, ⟨cda, ccl, cdd, vs', ccs, file, tf, rfl, k1, k2, k3⟩, ⟨cc, cl, cld, csl, by show List.lookup _ [(_, cc)] = _; simp [List.lookup], hcell⟩, hcl, hks, hS.frk _ (by simp), hka, ?_, htop, hmg, hany, hty, hfi⟩
    have hN0 : N[0]? = some ar.arg := by
      have e : (N.take ((T.pss g).length + 1))[0]? = ((T.pss g) ++ [("__class__" : Str)])[0]? := by rw [← hS.pre]; rfl
      have pos : 0 < (T.pss g).length := by
        rcases Nat.eq_zero_or_pos (T.pss g).length with z | z
        · rw [List.getElem?_eq_none (by omega)] at h0; cases h0
        · exact z
      rw [List.getElem?_take_of_lt (by omega), List.getElem?_append_left pos, h0] at e
      exact e
    exact hN0
  refine ks_wpAt_execs_cons (ks_wpAt_Expr_any (wpAt_mono' (super_call (k := k) ((hr.deeper _).mono (Nat.le_add_right k 6)) (L2.takes_of rfl rfl rfl rfl) TA hcs (by have := hV g2 hst; rw [hl2] at this; exact this) (all_dl (cET_ok n).1 A1.at_ A1.takes wk_e hns hes) hns hlt hend I0 hsig hR hw3) (fun v s' hv => ?_)) I0.quiet (sw_none rfl _))
  obtain ⟨v', H', I1, _, st', G', e1, r1, hw4⟩ := hv
  refine wpAt_of_wpAny (wpAny_mono ((cB_ok (cET_ok n).1 (cET_ok n).2 A1 n rest _ hrest).run [] s' _ H' { nx := fun _ H' => Q .non H', rt := Q } I1 (tSt_end e1 (hsig.ext e1) r1 hw4)) (fun fl s'' hs => ?_) fun e s'' hs => hs)
  cases fl with
  | ret u =>
    obtain ⟨v2, σ', H2, J, rv, q2⟩ := hs
    exact ⟨v2, H2, J.os, J.bare, J.base, J.hok, rv, q2⟩
  | next =>
    obtain ⟨σ', H2, J, q2⟩ := hs
    exact ⟨V.non, H2, J.os, J.bare, J.base, J.hok, rfl, q2⟩
  | brk =>
    obtain ⟨_, _, _, q2⟩ := hs
    exact False.elim q2
  | cont =>
    obtain ⟨_, _, _, q2⟩ := hs
    exact False.elim q2
/-- all functions, at every level -/
structure Infos (T : CT) (NM : Nm) (TB : Hp → Prop) (P : Prog) (pg : Program) (K : PySem.W.Frag) (mg : Str → Option Value) (base : Heap) (FA : Nat → Addr) (FD : Nat → FuncData) (good star : Nat → Prop) : Prop where
  fn : ∀ g, good g → (∃ q, P.funs[g]? = some q) ∧ (FnInfo T TB P K mg base (FA g) (FD g) g ∨ SupInfo T NM P pg K mg FA star (FA g) (FD g) g)
  st : ∀ g, star g → (∃ q, P.funs[g]? = some q) ∧ StarInfo T P K (FA g) g
theorem stuck_star {pg : Program} {w : World} {K : PySem.W.Frag} {mg : Str → Option Value} {base : Heap} {k nf : Nat} {a : Addr} {F : List Dat → St → Res Dat} (h : ∀ ds s, F ds s = .stuck) : FnR pg w K mg base (L2.CX pg w) k a (spV K NM TB nf F) := fun A outer s H us vs Q E hr e0 hv ⟨ds, rs, st, G, v, rest, _, _, _, _, _, _, h4⟩ => by rw [h] at h4; exact h4.elim
theorem prom_ok {pg : Program} {w : World} {K : PySem.W.Frag} {mg : Str → Option Value} {base : Heap} {star : Nat → Prop} (tp : TbP TB) (S : Stat T NM P K mg FA FD good) (O : OexS NM P K mg pg w base) (I : Infos T NM TB P pg K mg base FA FD good star) :
    ∀ n, (Prom T NM TB FA FD good pg w K mg base (7 * n + 1) (callF P n) ∧ PromV T NM TB FA star pg w K mg base (7 * n + 1) (callF P n)) ∧ (Prom T NM TB FA FD good pg w K mg base (7 * n + 1 + 7) (callF P (n + 1)) ∧ PromV T NM TB FA star pg w K mg base (7 * n + 1 + 7) (callF P (n + 1))) := by
  have zero : ∀ k, Prom T NM TB FA FD good pg w K mg base k (callF P 0) ∧ PromV T NM TB FA star pg w K mg base k (callF P 0) := fun k => ⟨fun g hg => stuck_prom rfl fun _ _ => rfl, fun g hg => stuck_star fun _ _ => rfl⟩
  have step : ∀ {k : Nat} {Φ Ψ Θ : Fun}, 1 ≤ k → (∀ g q ds s, P.funs[g]? = some q → Θ g ds s = runF P Φ Ψ q ds s) → Prom T NM TB FA FD good pg w K mg base k Φ → PromV T NM TB FA star pg w K mg base k Φ → Prom T NM TB FA FD good pg w K mg base k Ψ →
      Prom T NM TB FA FD good pg w K mg base (k + 7) Θ ∧ PromV T NM TB FA star pg w K mg base (k + 7) Θ := fun {k Φ Ψ Θ} hk hΘ h1 hv h2 => by
    refine ⟨fun g hg => ?_, fun g hg => ?_⟩
    · obtain ⟨⟨q, hq⟩, Ig⟩ := I.fn g hg
      have e : Θ g = fun ds s => runF P Φ Ψ q ds s := funext fun ds => funext fun s => hΘ g q ds s hq
      rw [e]
      rcases Ig with Ig | Ig
      · exact fun_ok tp S O hk h1 h2 Ig hq
      · exact fun_okS tp S O hk h1 h2 hv Ig hq
    · obtain ⟨⟨q, hq⟩, Ig⟩ := I.st g hg
      have e : Θ g = fun ds s => runF P Φ Ψ q ds s := funext fun ds => funext fun s => hΘ g q ds s hq
      rw [e]
      exact fun_okV tp S O hk h1 h2 Ig hq
  intro n
  induction n with
  | zero => exact ⟨zero _, step (Φ := callF P 0) (Ψ := callF P 0) (by omega) (fun g q ds s hq => by simp only [callF, hq]) (zero _).1 (zero _).2 (zero _).1⟩
  | succ n ih =>
    obtain ⟨a, b⟩ := ih
    have b' : Prom T NM TB FA FD good pg w K mg base (7 * (n + 1) + 1) (callF P (n + 1)) ∧ PromV T NM TB FA star pg w K mg base (7 * (n + 1) + 1) (callF P (n + 1)) := by
      rw [show 7 * (n + 1) + 1 = 7 * n + 1 + 7 by omega]
      exact b
    refine ⟨b', step (Φ := callF P (n + 1)) (Ψ := callF P n) (by omega) (fun g q ds s hq => by simp only [callF, hq]) b'.1 b'.2 fun g hg => (a.1 g hg).mono (by omega)⟩
end
end Z

set_option linter.all false
set_option maxRecDepth 100000
set_option maxHeartbeats 4000000
namespace Z
open PySem PySem.Spec PyProof.Rows
open L2 (V Hp HO Key VK XK TE TT TA TS TG TGs TO TI WX Cx Inv Ends SqL SqT Same upd upd_same upd_ne ne_of ne_of_none OpR UnR CallR R2 Dp DpAll IxR SlR PE PT PW PA PS PSs PG PGs PI PO PTs PK FnOk Room Vals RelV Sp EP thn MtR)
open L2 (Takes XE BlkOk Env0)
open He (ga ma fAd eqO eqO_ok ba)
/-- a law's tables -/
structure LD where
  T : CT
  P : Prog
  locs : List (Str × Option Str)
  clsN : List Str
  good : List Nat
  star : List Nat
/-- attributes' names: those of the table, then others that no text has -/
def attF (l : List Str) (k : Nat) : Str := match l[k]? with
  | some s => s
  | none => ⟨#[k + 2000000]⟩
def attB (l : List Str) : Bool := decide l.Nodup && l.all fun s => match s.cps.toList with
  | [c] => Nat.blt c 2000000
  | _ => true
theorem attF_inj {l : List Str} (h : attB l = true) (i j : Nat) (e : attF l i = attF l j) : i = j := by
  unfold attB at h
  obtain ⟨h1, h2⟩ := ba h
  have nd := of_decide_eq_true h1
  have far : ∀ {i k : Nat} {s : Str}, l[i]? = some s → s = ⟨#[k + 2000000]⟩ → False := fun {i k s} hs z => by
    have := List.all_eq_true.mp h2 s (List.mem_of_getElem? hs)
    rw [z] at this
    have := Nat.le_of_ble_eq_true this
    omega
  unfold attF at e
  cases hi : l[i]? with
  | some s =>
    cases hj : l[j]? with
    | some t =>
      rw [hi, hj] at e
      have e : s = t := e
      subst e
      exact L2.nodup_ix nd hi hj
    | none => rw [hi, hj] at e; exact (far hi e).elim
  | none =>
    cases hj : l[j]? with
    | some t => rw [hi, hj] at e; exact (far hj e.symm).elim
    | none =>
      rw [hi, hj] at e
      injection e with e
      injection e with e
      injection e with e _
      omega
section
variable (L : LD) (K : PySem.W.Frag)
def LD.fa (g : Nat) : Addr := fAd K (L.locs.getD g ("", none))
def LD.fd (g : Nat) : FuncData := match K.lookup (L.fa K g) with
  | some ⟨_, _, .func fd, _⟩ => fd
  | _ => default
def LD.ca (c : Nat) : Addr := ga K (L.clsN.getD c "")
def LD.nm (h : attB L.T.att = true) : Nm := ⟨L.ca K, attF L.T.att, attF_inj h⟩
def clsB (C : Addr) : Bool := PySem.W.plainGet K C Str.empty && (PySem.W.hasDictIn K C && (PySem.W.plainOver K C && eqO (PySem.W.findIn K (.ref C) "__setattr__") (some (some (.builtin "object.__setattr__")))))
def insB (C : Addr) : Bool := clsB K C && (eqO (PySem.W.findIn K (.ref C) "__class__") (some (some (.builtin "object.__class__"))) && decide (PySem.W.mroIn K C (.type "object") = some true))
def objClsB : Bool := eqO (PySem.W.specialIn K (.builtin "object.__class__") "__get__") (some (some (.builtin "getset_descriptor.__get__"))) && decide (PySem.W.takesIn K (.builtin "object.__class__") = some true)
def crVL (L : LD) (K : PySem.W.Frag) : CR → Value
  | .ty n => .type n
  | .own c => .ref (L.ca K c)
def isB (cr : CR) : Bool := (tyNs.all fun n => decide (PySem.W.kitOne K (.type n) (crVL L K cr) = some (ansT n cr))) && (List.range L.P.clss.length).all fun c => !plainC L.P c || decide (PySem.W.kitOne K (.ref (L.ca K c)) (crVL L K cr) = some (ansC L.P c cr))
def slB (l : List (Option Value)) : Bool := match l with
  | [_, _, _, _, some (.builtin n), _] => n == "ValueError.__new__"
  | _ => false
theorem slB_ok {l : List (Option Value)} (h : slB l = true) : ∃ k0 k1 k2 k3 k5, l = [k0, k1, k2, k3, some (.builtin "ValueError.__new__"), k5] := by
  unfold slB at h
  split at h
  · rename_i k0 k1 k2 k3 n k5
    have e : n = "ValueError.__new__" := by simpa using h
    subst e
    exact ⟨_, _, _, _, _, rfl⟩
  · cases h
def oexCB (C : Addr) : Bool := (match K.lookup C with
    | some ⟨.type t, _, .cls ⟨_, _, .ref C' :: bm, _, _, true, _, _, _, _, false⟩, sl⟩ => t == "type" && (C' == C && (PySem.HandSPX.refsVE bm && slB sl.toList))
    | _ => false) && (eqO (PySem.W.findIn K (.ref C) "__setattr__") (some (some (.builtin "object.__setattr__"))) && (decide (PySem.W.subIn K (.ref C) (.type "BaseException") = some true) && (decide (PySem.W.typeIn K (.ref C) = some (.type "type")) && PySem.W.keepIn K (.ref C))))
/-- an own exception: its fields are none of the class's, its __init__'s place -/
def excB (c : Nat) (q : ClsI) : Bool := oexCB K (L.ca K c) && (q.flds.all (fun f => eqO (PySem.W.findIn K (.ref (L.ca K c)) (attF L.T.att f)) (some none)) && (decide (q.flds.length ≤ 900) && (eqO (PySem.W.findIn K (.ref (L.ca K c)) "__init__") (some (some (.ref (ma K (L.ca K c) "__init__")))) &&
  (decide (PySem.W.typeIn K (.ref (ma K (L.ca K c) "__init__")) = some (.type "function")) && (L2.xfB K (L.ca K c) && (eqO (PySem.W.findIn K (.ref (L.ca K c)) "__class__") (some (some (.builtin "object.__class__"))) &&
  (decide (PySem.W.mroIn K (L.ca K c) (.type "object") = some true) && (List.range L.P.clss.length).all fun k => decide (PySem.W.kitOne K (.ref (L.ca K c)) (.ref (L.ca K k)) = some (belowC L.P c [k])) && (!belowC L.P c [k] || decide (PySem.W.exmOne K (.ref (L.ca K c)) (.ref (L.ca K k)) = some true)))))))))
def conB (x : Str) (d : Dat) : Bool := match d, PySem.W.nsIn K mainGlobals x with
  | .int i, some (some (.int j _)) => decide (i = j)
  | .str y, some (some (.str z _)) => decide (y = z)
  | .bl b, some (some (.bool c)) => b == c
  | .non, some (some .none) => true
  | _, _ => false
/-- a class: its instances' making, methods, ==, str() -/
def clB (c : Nat) (q : ClsI) : Bool :=
  (match q.init with
    | some n => L.good.contains n && (PySem.W.makesIn K (L.ca K c) && (eqO (PySem.W.findIn K (.ref (L.ca K c)) "__init__") (some (some (.ref (L.fa K n)))) && (PySem.W.isFn K (.ref (L.fa K n)) && (PySem.W.keepIn K (.ref (L.ca K c)) && insB K (L.ca K c)))))
    | none => true) &&
  (q.meths.all (fun p => L.good.contains p.2 && (clsB K (L.ca K c) && (eqO (PySem.W.findIn K (.ref (L.ca K c)) (attF L.T.att p.1)) (some (some (.ref (L.fa K p.2)))) && (PySem.W.isFn K (.ref (L.fa K p.2)) && PySem.W.keepIn K (.ref (L.fa K p.2)))))) &&
  ((match q.eq with
    | some g => L.good.contains g && (decide (npOf L.P g = 2) && (eqO (PySem.W.findIn K (.ref (L.ca K c)) "__eq__") (some (some (.ref (L.fa K g)))) && (PySem.W.isFn K (.ref (L.fa K g)) && (eqO (PySem.W.findIn K (.ref (L.ca K c)) "__ne__") (some (some (.builtin "object.__ne__"))) && decide (PySem.W.mroIn K (L.ca K c) (.type "object") = some true)))))
    | none => true) &&
  ((match q.meths.lookup L.T.strm with
    | some g => decide (npOf L.P g = 1) && (eqO (PySem.W.findIn K (.ref (L.ca K c)) "__str__") (some (some (.ref (L.fa K g)))) && PySem.W.isFn K (.ref (L.fa K g)))
    | none => true) &&
  ((q.dat.isEmpty || clsB K (L.ca K c)) && (q.dat.all (fun k => eqO (PySem.W.findIn K (.ref (L.ca K c)) (attF L.T.att k)) (some none)) && (q.flds.isEmpty || excB L K c q))))))
/-- all of it -/
def allB : Bool := L.good.all (fun g => PySem.W.keepIn K (.ref (L.fa K g))) &&
  (L.T.fn.all (fun p => L.good.contains p.2 && eqO (PySem.W.nsIn K mainGlobals p.1) (some (some (.ref (L.fa K p.2))))) &&
  (L.T.cl.all (fun p => decide (p.2 < L.P.clss.length) && eqO (PySem.W.nsIn K mainGlobals p.1) (some (some (.ref (L.ca K p.2))))) &&
  (L.P.clss.zipIdx.all (fun p => clB L K p.2 p.1) &&
  (objClsB K && (L.T.crs.all (isB L K) &&
  (L.T.bl.all (fun x => eqO (PySem.W.nsIn K mainGlobals x) (some none)) && (L.T.con.all fun p => conB K p.1 p.2)))))))
end
/-- what of it does not look at the written part -/
def LD.static (L : LD) : Bool := attB L.T.att && ((List.range L.P.clss.length).all (fun c => match L.P.clss[c]? with
    | some q => decide (L.T.ini c = q.init)
    | none => true) && (L.T.exc.all fun c => match L.P.clss[c]? with
    | some q => !q.flds.isEmpty
    | none => false))
section
variable {L : LD} {K : PySem.W.Frag}
theorem clsB_ok {C : Addr} (h : clsB K C = true) : L2.Cls K C := by
  obtain ⟨h1, h⟩ := ba h
  obtain ⟨h2, h⟩ := ba h
  obtain ⟨h3, h4⟩ := ba h
  exact ⟨h1, h2, h3, eqO_ok h4⟩
theorem oexCB_ok {C : Addr} (h : oexCB K C = true) : L2.OexC K C := by
  obtain ⟨h1, h⟩ := ba h
  obtain ⟨h2, h⟩ := ba h
  obtain ⟨h3, h⟩ := ba h
  obtain ⟨h4, h5⟩ := ba h
  refine ⟨?_, eqO_ok h2, of_decide_eq_true h3, of_decide_eq_true h4, h5⟩
  split at h1
  · rename_i t dd nm bs C' bm N q sn sub ab col sl hk
    obtain ⟨k1, h1⟩ := ba h1
    obtain ⟨k2, h1⟩ := ba h1
    obtain ⟨k3, k4⟩ := ba h1
    have e1 : t = "type" := by simpa using k1
    have e2 : C' = C := by simpa using k2
    subst e1 e2
    obtain ⟨k0, k1', k2', k3', k5, hl⟩ := slB_ok k4
    refine ⟨nm, q, N, bs, bm, sn, sub, ab, col, dd, k0, k1', k2', k3', k5, ?_, k3⟩
    rw [hk]
    have : sl = #[k0, k1', k2', k3', some (Value.builtin "ValueError.__new__"), k5] := by
      rw [← Array.toArray_toList (xs := sl), hl]
    rw [this]
  · cases h1
variable {hs : attB L.T.att = true} {h : Heap} {mg : Str → Option Value}
theorem contains_mem {l : List Nat} {g : Nat} (h : l.contains g = true) : g ∈ l := by simpa using h
theorem lookup_memN {α : Type} {β : Type} [BEq α] [LawfulBEq α] {l : List (α × β)} {a : α} {b : β} (h : l.lookup a = some b) : (a, b) ∈ l := by
  induction l with
  | nil => cases h
  | cons p r ih =>
    obtain ⟨x, y⟩ := p
    rw [List.lookup_cons] at h
    by_cases q : (a == x) = true
    · rw [q] at h
      have e : y = b := Option.some.inj h
      rw [e, eq_of_beq q]
      exact List.mem_cons_self
    · rw [show (a == x) = false by simpa using q] at h
      exact List.mem_cons_of_mem _ (ih h)
theorem allB_parts (h : allB L K = true) : (∀ g ∈ L.good, PySem.W.keepIn K (.ref (L.fa K g)) = true) ∧ (∀ p ∈ L.T.fn, p.2 ∈ L.good ∧ PySem.W.nsIn K mainGlobals p.1 = some (some (.ref (L.fa K p.2)))) ∧
    (∀ p ∈ L.T.cl, p.2 < L.P.clss.length ∧ PySem.W.nsIn K mainGlobals p.1 = some (some (.ref (L.ca K p.2)))) ∧ (∀ c q, L.P.clss[c]? = some q → clB L K c q = true) ∧ objClsB K = true ∧ (∀ cr ∈ L.T.crs, isB L K cr = true) ∧
    (∀ x ∈ L.T.bl, PySem.W.nsIn K mainGlobals x = some none) ∧ ∀ p ∈ L.T.con, conB K p.1 p.2 = true := by
  obtain ⟨h1, h⟩ := ba h
  obtain ⟨h2, h⟩ := ba h
  obtain ⟨h3, h⟩ := ba h
  obtain ⟨h4, h⟩ := ba h
  obtain ⟨h5, h⟩ := ba h
  obtain ⟨h6, h⟩ := ba h
  obtain ⟨h7, h8⟩ := ba h
  refine ⟨fun g hg => List.all_eq_true.mp h1 g hg, fun p hp => ?_, fun p hp => ?_, fun c q hc => ?_, h5, fun cr hc => List.all_eq_true.mp h6 cr hc, fun x hx => eqO_ok (List.all_eq_true.mp h7 x hx), fun p hp => List.all_eq_true.mp h8 p hp⟩
  · obtain ⟨a, b⟩ := ba (List.all_eq_true.mp h2 p hp)
    exact ⟨contains_mem a, eqO_ok b⟩
  · obtain ⟨a, b⟩ := ba (List.all_eq_true.mp h3 p hp)
    exact ⟨of_decide_eq_true a, eqO_ok b⟩
  · exact List.all_eq_true.mp h4 (q, c) (List.mem_zipIdx_iff_getElem?.mpr hc)
theorem insB_ok {C : Addr} (h : insB K C = true) (ho : objClsB K = true) : InsOk K C := by
  obtain ⟨h1, h⟩ := ba h
  obtain ⟨h2, h3⟩ := ba h
  obtain ⟨h4, h5⟩ := ba ho
  exact ⟨clsB_ok h1, eqO_ok h2, eqO_ok h4, of_decide_eq_true h5, of_decide_eq_true h3⟩
/-- a class's parts -/
structure ClP (L : LD) (K : PySem.W.Frag) (c : Nat) (q : ClsI) : Prop where
  ini : ∀ n, q.init = some n → n ∈ L.good ∧ L2.Mk K (L.ca K c) (L.fa K n) ∧ insB K (L.ca K c) = true
  meth : ∀ m g, q.meths.lookup m = some g → g ∈ L.good ∧ L2.Cls K (L.ca K c) ∧ L2.Meth K (L.ca K c) (attF L.T.att m) (L.fa K g)
  eq : ∀ g, q.eq = some g → g ∈ L.good ∧ npOf L.P g = 2 ∧ PySem.W.findIn K (.ref (L.ca K c)) "__eq__" = some (some (.ref (L.fa K g))) ∧ PySem.W.isFn K (.ref (L.fa K g)) = true ∧ PySem.W.findIn K (.ref (L.ca K c)) "__ne__" = some (some (.builtin "object.__ne__")) ∧ PySem.W.mroIn K (L.ca K c) (.type "object") = some true
  st : ∀ g, q.meths.lookup L.T.strm = some g → npOf L.P g = 1 ∧ PySem.W.findIn K (.ref (L.ca K c)) "__str__" = some (some (.ref (L.fa K g))) ∧ PySem.W.isFn K (.ref (L.fa K g)) = true
  dat : ∀ k ∈ q.dat, L2.Cls K (L.ca K c) ∧ L2.NoAttr K (L.ca K c) (attF L.T.att k)
  exc : q.flds ≠ [] → excB L K c q = true
theorem clB_ok {c : Nat} {q : ClsI} (h : clB L K c q = true) : ClP L K c q := by
  obtain ⟨h1, h⟩ := ba h
  obtain ⟨h2, h⟩ := ba h
  obtain ⟨h3, h⟩ := ba h
  obtain ⟨h4, h⟩ := ba h
  obtain ⟨h5, h⟩ := ba h
  obtain ⟨h6, h7⟩ := ba h
  refine ⟨fun n e => ?_, fun m g e => ?_, fun g e => ?_, fun g e => ?_, fun k hk => ⟨?_, ?_⟩, fun ne => ?_⟩
  · rw [e] at h1
    obtain ⟨a1, h1⟩ := ba h1
    obtain ⟨a2, h1⟩ := ba h1
    obtain ⟨a3, h1⟩ := ba h1
    obtain ⟨a4, h1⟩ := ba h1
    obtain ⟨a5, a6⟩ := ba h1
    exact ⟨contains_mem a1, ⟨a2, eqO_ok a3, a4, a5⟩, a6⟩
  · obtain ⟨a1, h2⟩ := ba (List.all_eq_true.mp h2 (m, g) (lookup_memN e))
    obtain ⟨a2, h2⟩ := ba h2
    obtain ⟨a3, h2⟩ := ba h2
    obtain ⟨a4, a5⟩ := ba h2
    exact ⟨contains_mem a1, clsB_ok a2, eqO_ok a3, a4, a5⟩
  · rw [e] at h3
    obtain ⟨a1, h3⟩ := ba h3
    obtain ⟨a2, h3⟩ := ba h3
    obtain ⟨a3, h3⟩ := ba h3
    obtain ⟨a4, h3⟩ := ba h3
    obtain ⟨a5, a6⟩ := ba h3
    exact ⟨contains_mem a1, of_decide_eq_true a2, eqO_ok a3, a4, eqO_ok a5, of_decide_eq_true a6⟩
  · rw [e] at h4
    obtain ⟨a1, h4⟩ := ba h4
    obtain ⟨a2, a3⟩ := ba h4
    exact ⟨of_decide_eq_true a1, eqO_ok a2, a3⟩
  · rcases Bool.or_eq_true_iff.mp h5 with z | z
    · rw [List.isEmpty_iff.mp z] at hk; cases hk
    · exact clsB_ok z
  · exact eqO_ok (List.all_eq_true.mp h6 k hk)
  · rcases Bool.or_eq_true_iff.mp h7 with z | z
    · exact absurd (List.isEmpty_iff.mp z) ne
    · exact z
structure ExcP (L : LD) (K : PySem.W.Frag) (c : Nat) (q : ClsI) : Prop where
  oex : L2.OexC K (L.ca K c)
  no : ∀ f ∈ q.flds, PySem.W.findIn K (.ref (L.ca K c)) (attF L.T.att f) = some none
  few : q.flds.length ≤ 900
  ini : PySem.W.findIn K (.ref (L.ca K c)) "__init__" = some (some (.ref (ma K (L.ca K c) "__init__")))
  ty : PySem.W.typeIn K (.ref (ma K (L.ca K c) "__init__")) = some (.type "function")
  xf : L2.XfC K (L.ca K c)
  ha : PySem.W.findIn K (.ref (L.ca K c)) "__class__" = some (some (.builtin "object.__class__"))
  hm : PySem.W.mroIn K (L.ca K c) (.type "object") = some true
  one : ∀ k, k < L.P.clss.length → PySem.W.kitOne K (.ref (L.ca K c)) (.ref (L.ca K k)) = some (belowC L.P c [k])
  exm : ∀ k, k < L.P.clss.length → belowC L.P c [k] = true → PySem.W.exmOne K (.ref (L.ca K c)) (.ref (L.ca K k)) = some true
theorem excB_ok {c : Nat} {q : ClsI} (h : excB L K c q = true) : ExcP L K c q := by
  obtain ⟨h1, h⟩ := ba h
  obtain ⟨h2, h⟩ := ba h
  obtain ⟨h3, h⟩ := ba h
  obtain ⟨h4, h⟩ := ba h
  obtain ⟨h5, h⟩ := ba h
  obtain ⟨h6, h⟩ := ba h
  obtain ⟨h7, h⟩ := ba h
  obtain ⟨h8, h9⟩ := ba h
  refine ⟨oexCB_ok h1, fun f hf => eqO_ok (List.all_eq_true.mp h2 f hf), of_decide_eq_true h3, eqO_ok h4, of_decide_eq_true h5, L2.xfB_ok h6, eqO_ok h7, of_decide_eq_true h8, fun k hk => ?_, fun k hk hb => ?_⟩
  · exact of_decide_eq_true (ba (List.all_eq_true.mp h9 k (List.mem_range.mpr hk))).1
  · have := (ba (List.all_eq_true.mp h9 k (List.mem_range.mpr hk))).2
    rw [hb] at this
    exact of_decide_eq_true this
theorem exq_ok (ho : objClsB K = true) (hc : ∀ c q, L.P.clss[c]? = some q → clB L K c q = true) : ExqOk K (L.nm K hs) L.P := by
  have key : ∀ c, excQ L.P c = true → ∃ q, L.P.clss[c]? = some q ∧ ExcP L K c q := fun c e => by
    unfold excQ at e
    cases z : L.P.clss[c]? with
    | none => rw [z] at e; cases e
    | some q =>
      rw [z] at e
      refine ⟨q, rfl, excB_ok ((clB_ok (hc c q z)).exc fun w => ?_)⟩
      have e : (!q.flds.isEmpty) = true := e
      rw [w] at e; cases e
  obtain ⟨h4, h5⟩ := ba ho
  refine ⟨fun c e => ?_, fun c e => ?_, fun c q k z e hk => ?_, fun c k e hk => ?_, fun c k e hk hb => ?_⟩
  · obtain ⟨q, _, x⟩ := key c e
    obtain ⟨_, _, _, _, _, _, _, _, _, _, _, _, _, _, _, _⟩ := x.oex.cls
    exact ⟨x.xf.ga, x.xf.gg, x.xf.exC, x.xf.hdC, x.ha, eqO_ok h4, of_decide_eq_true h5, x.hm⟩
  · obtain ⟨q, _, x⟩ := key c e
    exact x.xf
  · obtain ⟨q', z', x⟩ := key c e
    rw [z] at z'
    cases z'
    exact x.no k hk
  · obtain ⟨q, _, x⟩ := key c e
    exact x.one k hk
  · obtain ⟨q, _, x⟩ := key c e
    exact x.exm k hk hb
theorem con_rep {x : Str} {d : Dat} (X : K.In h) (G : h.Ns mainGlobals mg) {NM : Nm} (e : conB K x d = true) : ∃ u v, mg x = some u ∧ RelV v u ∧ ∀ F, RepV K NM F v d := by
  unfold conB at e
  split at e
  · rename_i i j t hn
    have : i = j := of_decide_eq_true e
    subst this
    exact ⟨_, .int i, PySem.W.mg_of X G hn, ⟨_, rfl⟩, fun F => .int i⟩
  · rename_i y z t hn
    have : y = z := of_decide_eq_true e
    subst this
    exact ⟨_, .str y, PySem.W.mg_of X G hn, ⟨_, rfl⟩, fun F => .str y⟩
  · rename_i b c hn
    have : b = c := by simpa using e
    subst this
    exact ⟨_, .bl b, PySem.W.mg_of X G hn, rfl, fun F => .bl b⟩
  · rename_i hn
    exact ⟨_, .non, PySem.W.mg_of X G hn, rfl, fun F => .non⟩
  · cases e
theorem stat_of (st : L.static = true) (e : allB L K = true) (X : K.In h) (G : h.Ns mainGlobals mg)
    (hin : ∀ c, L.P.clss[c]? = none → L.T.ini c = none) (pl : ∀ g, g ∈ L.good → Plain (L.fd K g).params (L.T.pss g) ∧ (L.T.pss g).Nodup ∧ (L.fd K g).defaults = .none ∧ (L.T.pss g).length = npOf L.P g) (hd : ∀ x b h, L.T.hd.lookup x = some (b, h) → HdAt L.T (L.nm K hs) L.P K mg x b h) :
    Stat L.T (L.nm K hs) L.P K mg (L.fa K) (L.fd K) (· ∈ L.good) := by
  obtain ⟨p1, p2, p3, p4, p5, p6, p7, p8⟩ := allB_parts e
  obtain ⟨s1, s⟩ := ba st
  obtain ⟨s2, s3⟩ := ba s
  have cP : ∀ {c q}, L.P.clss[c]? = some q → ClP L K c q := fun {c q} z => clB_ok (p4 c q z)
  have lt : ∀ {c q}, L.P.clss[c]? = some q → c < L.P.clss.length := fun {c q} z => (List.getElem?_eq_some_iff.mp z).1
  refine ⟨fun g hg => ?_, fun x g e => ?_, fun x c e => ?_, fun c n e => ?_, fun c q n e1 e2 => ?_, fun c q m g e1 e2 => ?_, fun c q g e1 e2 => ?_, fun c q g e1 e2 => ?_, ⟨fun c k e => ?_⟩, fun c e => ?_, fun cr hc => ?_, fun x hx => ?_, fun x d e => ?_, fun c hc => ?_, fun k s e => ?_, hd⟩
  · obtain ⟨a1, a2, a3, a4⟩ := pl g hg
    exact ⟨a1, a2, a3, p1 g hg, a4⟩
  · obtain ⟨a, b⟩ := p2 (x, g) (lookup_memN e)
    exact ⟨a, PySem.W.mg_of X G b⟩
  · exact PySem.W.mg_of X G (p3 (x, c) (lookup_memN e)).2
  · cases z : L.P.clss[c]? with
    | none =>
      rw [hin c z] at e; cases e
    | some q =>
      have := List.all_eq_true.mp s2 c (List.mem_range.mpr (lt z))
      rw [z] at this
      exact ⟨q, rfl, (of_decide_eq_true this).symm.trans e⟩
  · obtain ⟨a, b, _⟩ := (cP e1).ini n e2
    exact ⟨a, b⟩
  · exact (cP e1).meth m g e2
  · exact (cP e1).eq g e2
  · exact (cP e1).st g e2
  · unfold datC at e
    cases z : L.P.clss[c]? with
    | none => rw [z] at e; cases e
    | some q => rw [z] at e; exact (cP z).dat k (by simpa using e)
  · unfold plainC at e
    cases z : L.P.clss[c]? with
    | none => rw [z] at e; cases e
    | some q =>
      rw [z] at e
      obtain ⟨n, hn⟩ := Option.isSome_iff_exists.mp e
      exact insB_ok ((cP z).ini n hn).2.2 p5
  · obtain ⟨a, b⟩ := ba (p6 cr hc)
    refine ⟨fun n hn => ?_, fun c hp => ?_⟩
    · have := of_decide_eq_true (List.all_eq_true.mp a n hn)
      cases cr <;> exact this
    · have hl : c < L.P.clss.length := by
        unfold plainC at hp
        cases z : L.P.clss[c]? with
        | none => rw [z] at hp; cases hp
        | some q => exact lt z
      have := List.all_eq_true.mp b c (List.mem_range.mpr hl)
      rw [hp] at this
      have := of_decide_eq_true (show decide _ = true from this)
      cases cr <;> exact this
  · exact PySem.W.mg_none_of X G (p7 x hx)
  · exact con_rep X G (p8 (x, d) (lookup_memN e))
  · have := List.all_eq_true.mp s3 c hc
    cases z : L.P.clss[c]? with
    | none => rw [z] at this; cases this
    | some q =>
      rw [z] at this
      refine ⟨q, rfl, fun w => ?_⟩
      have this : (!q.flds.isEmpty) = true := this
      rw [w] at this; cases this
  · show attF L.T.att k = s
    unfold attF
    rw [e]
end
end Z

set_option linter.all false
set_option maxRecDepth 100000
set_option maxHeartbeats 4000000
namespace Z
open PySem PySem.Spec PyProof.Rows
open L2 (V Hp HO Key VK XK TE TT TA TS TG TGs TO TI WX Cx Inv Ends SqL SqT Same upd upd_same upd_ne ne_of ne_of_none OpR UnR CallR R2 Dp DpAll IxR SlR PE PT PW PA PS PSs PG PGs PI PO PTs PK FnOk Room Vals RelV Sp EP thn MtR)
open L2 (Takes XE BlkOk Env0)
open NdefX (NF NScope)
open He (ga ma fAd eqO eqO_ok ba frT asD DefD cT Defn tabsB)
/-- a def and its translation -/
structure FRow where
  g : Nat
  d : DefD
  n : Nat
  mu : List Nat
  rl : Bool
  lam : Bool
  N : List Str
  q : FunI
/-- a def with the cell __class__ -/
structure SDef where
  at_ : Str × Option Str
  name : Str
  qual : Str
  params : Arguments
  body : List Stmt
  scope : Scope
structure SRow where
  g : Nat
  d : SDef
  n : Nat
  mu : List Nat
  rl : Bool
  N : List Str
  q : FunI
  g2 : Nat
  cs : List Nat
/-- an own exception's __init__ -/
structure XRow where
  c : Nat
  d : DefD
  N : List Str
  ps : List Str
/-- a def that hears -/
structure HRow where
  x : Str
  d : DefD
  N : List Str
  n : Nat
  aN : Str
  b : Nat
  h : HE
structure Desc where
  L : LD
  rows : List FRow
  srows : List SRow
  vrows : List FRow
  xrows : List XRow
  hrows : List HRow
def fscB (N ps : List Str) (sc : Scope) : Bool := decide (sc.kind = .function) && (!sc.isCoroutine && (!sc.isGenerator && (decide N.Nodup && (decide (N.take ps.length = ps) && (ps.all (fun x => decide (sc.names.lookup x = some .local) || decide (sc.names.lookup x = some .cell)) && sc.names.all fun y => !decide (y.2 = .free))))))
theorem fscB_ok {N ps : List Str} {sc : Scope} (h : fscB N ps sc = true) : L2.FnScope N ps sc := by
  obtain ⟨h1, h⟩ := ba h
  obtain ⟨h2, h⟩ := ba h
  obtain ⟨h3, h⟩ := ba h
  obtain ⟨h4, h⟩ := ba h
  obtain ⟨h5, h⟩ := ba h
  obtain ⟨h6, h7⟩ := ba h
  refine ⟨of_decide_eq_true h1, by simpa using h2, by simpa using h3, of_decide_eq_true h4, of_decide_eq_true h5, fun x hx => ?_, fun y hy => ?_⟩
  · have := List.all_eq_true.mp h6 x hx
    rcases Bool.or_eq_true_iff.mp this with z | z
    · exact .inl (of_decide_eq_true z)
    · exact .inr (of_decide_eq_true z)
  · have := List.all_eq_true.mp h7 y hy
    simpa using this
def plainB (p : Arguments) (ps : List Str) : Bool := p.posonlyargs.isEmpty && (decide (p.args.map (·.arg) = ps) && (p.kwonlyargs.isEmpty && (p.vararg.isNone && p.kwarg.isNone)))
theorem plainB_ok {p : Arguments} {ps : List Str} (h : plainB p ps = true) : Plain p ps := by
  obtain ⟨h1, h⟩ := ba h
  obtain ⟨h2, h⟩ := ba h
  obtain ⟨h3, h⟩ := ba h
  obtain ⟨h4, h5⟩ := ba h
  exact ⟨List.isEmpty_iff.mp h1, of_decide_eq_true h2, List.isEmpty_iff.mp h3, Option.isNone_iff_eq_none.mp h4, Option.isNone_iff_eq_none.mp h5⟩
def starB (p : Arguments) (ps : List Str) : Bool := p.posonlyargs.isEmpty && (p.kwonlyargs.isEmpty && (p.kwarg.isNone && match p.vararg with
  | some a => decide (p.args.map (·.arg) ++ [a.arg] = ps)
  | none => false))
theorem starB_ok {p : Arguments} {ps : List Str} (h : starB p ps = true) : ∃ pf pv, ps = pf ++ [pv] ∧ StarP p pf pv := by
  obtain ⟨h1, h⟩ := ba h
  obtain ⟨h2, h⟩ := ba h
  obtain ⟨h3, h4⟩ := ba h
  cases hv : p.vararg with
  | none => rw [hv] at h4; cases h4
  | some a =>
    rw [hv] at h4
    exact ⟨_, _, (of_decide_eq_true h4).symm, ⟨List.isEmpty_iff.mp h1, rfl, List.isEmpty_iff.mp h2, ⟨a, hv, rfl⟩, Option.isNone_iff_eq_none.mp h3⟩⟩
/-- the body of a def that calls super().__init__ first -/
def cSup (T : CT) (n : Nat) (mu : List Nat) (rl : Bool) (N : List Str) (sc : Scope) (g2 : Nat) (cs : List Nat) : List Stmt → Option (List IS)
  | .Expr (.Call (.Attribute (.Call (.Name x p0) [] [] p1) m ap) (w :: es) [] cp) ep :: rest => if x == ("super" : Str) && (m == ("__init__" : Str) && (noStars (w :: es) && (decide ((w :: es).length < 29) && (ap.endLine == cp.line)))) then
      (match allE ((cET T n).1 ⟨N, sc, some sc, false⟩) (w :: es), cB T (cET T n).1 (cET T n).2 mu rl ⟨N, sc, some sc, false⟩ n rest with
      | some (iw :: ies), some ir => some (.expr (.supr g2 cs iw ies) :: ir)
      | _, _ => none) else none
  | _ => none
/-- an own exception's __init__ -/
def iniS : Stmt → Option (Str × Str × Str)
  | .Assign [.Attribute (.Name s _) f _] (.Name p _) _ => some (s, f, p)
  | _ => none
theorem iniS_ok {st : Stmt} {s f p : Str} (h : iniS st = some (s, f, p)) : ∃ p1 p2 p3 pos, st = .Assign [.Attribute (.Name s p1) f p2] (.Name p p3) pos := by
  unfold iniS at h
  split at h
  · cases h; exact ⟨_, _, _, _, rfl⟩
  · cases h
def iniB (N : List Str) (sc : Scope) (slf : Str) : List Stmt → List Str → Nat → Bool
  | [], [], _ => true
  | st :: ss, g :: fs, j => (match iniS st with
    | some (s, f, p) => s == slf && (f == g && (decide (N[j]? = some p) && ((decide (sc.names.lookup p = some .local)) && (!(p == ("__debug__" : Str)) && !(p == ("__classdict__" : Str))))))
    | none => false) && iniB N sc slf ss fs (j + 1)
  | _, _, _ => false
theorem iniB_ok {X : Cx} {N : List Str} {sc : Scope} {slf : Str} (hN : X.N = N) (hs : X.env.scope = sc) : ∀ {ss : List Stmt} {fs : List Str} {j : Nat}, iniB N sc slf ss fs j = true → InitB X slf ss fs j
  | [], [], _, _ => .nil
  | [], _ :: _, _, h => by cases h
  | _ :: _, [], _, h => by cases h
  | st :: ss, g :: fs, j, h => by
    obtain ⟨hh, h7⟩ := ba h
    clear h
    cases e : iniS st with
    | none => rw [e] at hh; cases hh
    | some q =>
      obtain ⟨s, f, p⟩ := q
      rw [e] at hh
      obtain ⟨p1, p2, p3, pos, rfl⟩ := iniS_ok e
      have h : (s == slf && (f == g && (decide (N[j]? = some p) && ((decide (sc.names.lookup p = some .local)) && (!(p == ("__debug__" : Str)) && !(p == ("__classdict__" : Str))))))) = true := hh
      obtain ⟨h1, h⟩ := ba h
      obtain ⟨h2, h⟩ := ba h
      obtain ⟨h3, h⟩ := ba h
      obtain ⟨h4, h⟩ := ba h
      obtain ⟨h5, h6⟩ := ba h
      have e1 : s = slf := by simpa using h1
      have e2 : f = g := by simpa using h2
      subst e1 e2
      exact .cons (by rw [hN]; exact of_decide_eq_true h3) (by rw [hs]; exact .inl (of_decide_eq_true h4)) (by simpa using h5) (by simpa using h6) (iniB_ok hN hs h7)
/-- a def's static part -/
def rowB (L : LD) (r : FRow) : Bool := fscB r.N (L.T.pss r.g) r.d.scope && (plainB r.d.params (L.T.pss r.g) && (decide (L.T.pss r.g).Nodup && (r.d.dfl.isEmpty && (decide (L.locs[r.g]? = some r.d.at_) && (decide (r.q.N = r.N.length) && decide (r.q.np = (L.T.pss r.g).length))))))
def vrowB (L : LD) (r : FRow) : Bool := fscB r.N (L.T.pss r.g) r.d.scope && (starB r.d.params (L.T.pss r.g) && (decide (L.T.pss r.g).Nodup && (r.d.dfl.isEmpty && (decide (L.locs[r.g]? = some r.d.at_) && (decide (r.q.N = r.N.length) && decide (r.q.np = (L.T.pss r.g).length))))))
def srowB (L : LD) (r : SRow) : Bool := NdefX.nscB r.N (L.T.pss r.g) ["__class__"] r.d.scope && (plainB r.d.params (L.T.pss r.g) && (decide (L.T.pss r.g).Nodup && (decide (L.locs[r.g]? = some r.d.at_) && (decide (r.q.N = r.N.length) && (decide (r.q.np = (L.T.pss r.g).length) &&
  (L.star.contains r.g2 && (decide ((L.T.pss r.g2).length = 3) && (decide (r.d.scope.names.lookup ("super" : Str) = some .globalImplicit) && match r.d.params.args.head? with
    | some ar => decide ((L.T.pss r.g)[0]? = some ar.arg) && decide (r.d.scope.names.lookup ar.arg = some .local)
    | none => false))))))))
def xrowB (L : LD) (r : XRow) : Bool := fscB r.N r.ps r.d.scope && (plainB r.d.params r.ps && (decide r.ps.Nodup && (r.d.dfl.isEmpty && (decide (r.d.at_ = ((L.clsN.getD r.c "", some "__init__") : Str × Option Str)) && match L.P.clss[r.c]?, r.ps with
  | some q, slf :: ps => decide (ps.length = q.flds.length) && (iniB r.N r.d.scope slf r.d.body (q.flds.map (attF L.T.att)) 1 && (decide (r.N[0]? = some slf) && (decide (r.d.scope.names.lookup slf = some .local) && (!(slf == ("__debug__" : Str)) && !(slf == ("__classdict__" : Str))))))
  | _, _ => false))))
def hrowB (r : HRow) : Bool := fscB r.N [r.aN] r.d.scope && (plainB r.d.params [r.aN] && (r.d.dfl.isEmpty && (decide (r.d.at_ = (r.x, none)) && (decide (r.d.name = r.x) && (decide (r.d.qual = r.x) && (decide (r.N[0]? = some r.aN) && (decide (r.d.scope.names.lookup r.aN = some .local) && (!(r.aN == ("__debug__" : Str)) && !(r.aN == ("__classdict__" : Str))))))))))
def Desc.static (D : Desc) : Bool := D.L.static && (D.rows.all (rowB D.L) && (D.vrows.all (vrowB D.L) && (D.srows.all (srowB D.L) && (D.xrows.all (xrowB D.L) && (D.hrows.all hrowB &&
  (D.L.good.all (fun g => D.rows.any (fun r => r.g == g) || D.srows.any fun r => r.g == g) && (D.L.star.all (fun g => D.vrows.any fun r => r.g == g) &&
  (D.L.P.clss.zipIdx.all (fun p => p.1.flds.isEmpty || D.xrows.any fun r => r.c == p.2) && D.L.T.cl.all fun p => decide (p.2 < D.L.P.clss.length)))))))))
/-- the translations -/
structure Desc.Trans (D : Desc) : Prop where
  rows : D.rows.map (fun r => (D.L.P.funs[r.g]?, cB D.L.T (cET D.L.T r.n).1 (cET D.L.T r.n).2 r.mu r.rl ⟨r.N, r.d.scope, none, r.lam⟩ r.n r.d.body)) = D.rows.map fun r => (some r.q, some r.q.body)
  vrows : D.vrows.map (fun r => (D.L.P.funs[r.g]?, cB D.L.T (cET D.L.T r.n).1 (cET D.L.T r.n).2 r.mu r.rl ⟨r.N, r.d.scope, none, false⟩ r.n r.d.body)) = D.vrows.map fun r => (some r.q, some r.q.body)
  srows : D.srows.map (fun r => (D.L.P.funs[r.g]?, cSup D.L.T r.n r.mu r.rl r.N r.d.scope r.g2 r.cs r.d.body)) = D.srows.map fun r => (some r.q, some r.q.body)
  hrows : D.hrows.map (fun r => cHd D.L.T ⟨r.N, r.d.scope, none, false⟩ r.aN r.n r.d.body) = D.hrows.map fun r => some (r.b, r.h)
  hd : D.L.T.hd = D.hrows.map fun r => (r.x, (r.b, r.h))
  ini : ∀ c, D.L.P.clss[c]? = none → D.L.T.ini c = none
abbrev FnSW : Type := Option (Str × Str × Arguments × FuncBody × Scope × Addr × List Str × Addr)
def fnS (K : PySem.W.Frag) (p : Str × Option Str) : FnSW := match K.lookup (fAd K p) with
  | some ⟨_, _, .func fd, _⟩ => some (fd.name, fd.qualname, fd.params, fd.body, fd.scope, fd.globals, fd.closure.map (·.1), fd.builtins)
  | _ => none
def SDef.val (d : SDef) : FnSW := some (d.name, d.qual, d.params, .stmts d.body, d.scope, mainGlobals, ["__class__"], builtinsNs)
/-- the class that a method's cell holds -/
def cellD (K : PySem.W.Frag) (cl : List (Str × Addr)) : Addr := match cl with
  | [(_, cc)] => (match K.lookup cc with
    | some ⟨_, _, .cell (some (.ref D)), _⟩ => D
    | _ => 0)
  | _ => 0
def sokB (L : LD) (file : Str) (K : PySem.W.Frag) (r : SRow) : Bool := PySem.W.keepIn K (.ref (fAd K r.d.at_)) && (match K.lookup (fAd K r.d.at_) with
  | some ⟨_, _, .func fd, _⟩ => PySem.W.codeIn K fd.code r.d.qual && ((match fd.defaults with
      | .none => true
      | _ => false) && ((match fd.code with
      | .ref cda => (match K.lookup cda with
        | some ⟨_, _, .fields vs, _⟩ => (match (vs[2]? : Option Value) with
          | some (.str f _) => file == f
          | _ => false)
        | _ => false)
      | _ => false) && ((match fd.closure with
      | [(_, cc)] => (match K.lookup cc with
        | some ⟨_, _, .cell (some (.ref D)), _⟩ => (PySem.W.clsIn K D).isSome && r.cs.all fun c => decide (PySem.W.mroIn K (L.ca K c) (.ref D) = some true) && eqO (PySem.W.ks_superIn K (L.ca K c) D "__init__") (some (some (.ref (L.fa K r.g2))))
        | _ => false)
      | _ => false) && (decide (PySem.W.typeIn K (.ref (L.fa K r.g2)) = some (.type "function")) && PySem.W.fnIn K (L.fa K r.g2)))))
  | _ => false)
/-- the lambdas' defs -/
def Desc.tf (D : Desc) : List Defn := (D.rows.filter (·.lam)).map (·.d.at_)
def Desc.fn (D : Desc) : List DefD := D.rows.map (·.d) ++ (D.vrows.map (·.d) ++ (D.xrows.map (·.d) ++ D.hrows.map (·.d)))
def Desc.ex (D : Desc) (file : Str) (K : PySem.W.Frag) : Bool := allB D.L K && (D.srows.all (sokB D.L file K) && (eqO (PySem.W.nsIn K mainGlobals "super") (some none) && (eqO (PySem.W.nsIn K PySem.cStatics "thirdparty.any") (some none) && (decide (D.tf.map fun p => (cT K p).2).Nodup && D.hrows.all fun r => eqO (PySem.W.nsIn K mainGlobals r.x) (some (some (.ref (fAd K r.d.at_))))))))
abbrev AlL : Type := Bool × List He.FnW × List FnSW
def obsK (D : Desc) (file : Str) (g : Addr → Option Obj) (K : PySem.W.Frag) : AlL := (D.fn.all (fun d => d.ok K) && (D.ex file K && tabsB g D.tf K), D.fn.map fun d => He.fnW K d.at_, D.srows.map fun r => fnS K r.d.at_)
def valK (D : Desc) : AlL := (true, D.fn.map DefD.val, D.srows.map fun r => r.d.val)
def partK (g : Addr → Option Obj) (n : Nat) : PySem.W.Frag := frT g (asD g n ++ [PySem.cStatics])
def obsL (D : Desc) (file : Str) (n : Nat) (g : Addr → Option Obj) : AlL := obsK D file g (partK g n)
/-- what is known behind the top -/
structure SaysL (D : Desc) (file : Str) (h : Heap) (K : PySem.W.Frag) : Prop where
  fns : ∀ d ∈ D.fn, ∃ fd, L2.FunD K d.name d.qual d.params d.body d.scope (d.dvs K) (d.kws K) (fAd K d.at_) fd
  sns : ∀ r ∈ D.srows, fnS K r.d.at_ = r.d.val
  ex : D.ex file K = true
  hd : ∀ p ∈ D.tf, PySem.W.codeHdIn K (cT K p).1 (cT K p).2 = true
  out : ∀ p ∈ D.tf, K.lookup (cT K p).2 = none
  empty : ∀ p ∈ D.tf, h.get? (cT K p).2 = some { cls := .none, data := .fields #[] }
theorem saysL_of {D : Desc} {file : Str} {n : Nat} {h : Heap} (e : obsL D file n h.get? = valK D) : SaysL D file h (partK h.get? n) := by
  have e1 : (D.fn.all (fun d => d.ok (partK h.get? n)) && (D.ex file (partK h.get? n) && tabsB h.get? D.tf (partK h.get? n))) = true := congrArg (fun z : AlL => z.1) e
  have e2 : D.fn.map (fun d => He.fnW (partK h.get? n) d.at_) = D.fn.map DefD.val := congrArg (fun z : AlL => z.2.1) e
  have e3 : D.srows.map (fun r => fnS (partK h.get? n) r.d.at_) = D.srows.map fun r => r.d.val := congrArg (fun z : AlL => z.2.2) e
  obtain ⟨h1, e1⟩ := ba e1
  obtain ⟨h2, h3⟩ := ba e1
  have at_ : ∀ {α β : Type} {l : List α} {f g : α → β}, l.map f = l.map g → ∀ a ∈ l, f a = g a := fun {α β l f g} e a m => List.map_inj_left.mp e a m
  have key : ∀ p ∈ D.tf, PySem.W.codeHdIn (partK h.get? n) (cT (partK h.get? n) p).1 (cT (partK h.get? n) p).2 = true ∧ ∃ o, h.get? (cT (partK h.get? n) p).2 = some o ∧ He.emptyTab o = true := fun p hp => by
    obtain ⟨h4, h5⟩ := ba (List.all_eq_true.mp h3 p hp)
    refine ⟨h4, ?_⟩
    cases q : h.get? (cT (partK h.get? n) p).2 with
    | none => rw [q] at h5; cases h5
    | some o => rw [q] at h5; exact ⟨o, rfl, h5⟩
  refine ⟨fun d hd => DefD.funD (at_ e2 d hd) (List.all_eq_true.mp h1 d hd), at_ e3, h2, fun p hp => (key p hp).1, fun p hp => ?_, fun p hp => ?_⟩
  · obtain ⟨_, o, q, z⟩ := key p hp
    exact He.frT_none q z
  · obtain ⟨_, o, q, z⟩ := key p hp
    rw [q, He.emptyTab_eq z]
def hookL (D : Desc) (file : Str) (n : Nat) : PySem.W.Hook where
  α := AlL
  obs := fun s => obsL D file n s.heap.get?
  val := fun _ => valK D
  says := fun _ h => ∃ K : PySem.W.Frag, K.In h ∧ SaysL D file h K
  of := fun _ _ e => ⟨_, He.frT_in, saysL_of e⟩
  keeps := fun _ _ _ ⟨K, hK, c⟩ k => ⟨K, PySem.W.Frag.In.keeps hK k, ⟨c.fns, c.sns, c.ex, c.hd, c.out, fun p hp => k _ _ (c.empty p hp)⟩⟩
theorem obsL_eq {D : Desc} {file : Str} {n : Nat} {g : Addr → Option Obj} {s : Shared} (h : ∀ a, g a = s.heap.get? a) : obsL D file n g = (hookL D file n).obs s := by
  have e : g = s.heap.get? := funext h
  rw [e] <;> rfl
end Z

set_option linter.all false
set_option maxRecDepth 100000
set_option maxHeartbeats 4000000
namespace Z
open PySem PySem.Spec PyProof.Rows
open L2 (V Hp HO Key VK XK TE TT TA TS TG TGs TO TI WX Cx Inv Ends SqL SqT Same upd upd_same upd_ne ne_of ne_of_none OpR UnR CallR R2 Dp DpAll IxR SlR PE PT PW PA PS PSs PG PGs PI PO PTs PK FnOk Room Vals RelV Sp EP thn MtR)
open L2 (Takes XE BlkOk Env0 FunD)
open NdefX (NF NScope)
open He (ga ma fAd eqO eqO_ok ba frT asD DefD cT Defn tabsB)
theorem tabs_tp (TL : List (Addr × Str)) : TbP (LamX.Tabs TL) := by
  refine ⟨fun H H' t e => t.ext e, fun H a o t l p hp => ?_⟩
  obtain ⟨ps, h1, h2, h3⟩ := t p hp
  have ne : ∀ {b : Addr}, ¬ Lv (H b) → b ≠ a := fun {b} n z => n (by rw [z]; exact l)
  have e1 : p.1 ≠ a := ne fun z => by rw [h1] at z; exact z
  refine ⟨ps, (upd_ne e1).trans h1, h2, fun pos cv hc => ?_⟩
  obtain ⟨c, ec, hcc⟩ := h3 pos cv hc
  have e2 : c ≠ a := ne fun z => by rw [hcc] at z; exact z
  exact ⟨c, ec, (upd_ne e2).trans hcc⟩
def Desc.TL (D : Desc) (K : PySem.W.Frag) : List (Addr × Str) := (D.rows.filter (·.lam)).map fun r => ((cT K r.d.at_).2, r.d.qual ++ (".<locals>." : Str) ++ ("<lambda>" : Str))
def Desc.cs (D : Desc) (K : PySem.W.Frag) : List (Addr × Addr) := D.tf.map (cT K)
structure DescOk (D : Desc) : Prop where
  st : D.static = true
  tr : D.Trans
  attB : attB D.L.T.att = true
section
variable {D : Desc} {file : Str} {h : Heap} {K : PySem.W.Frag} {mg : Str → Option Value}
structure StP (D : Desc) : Prop where
  l : D.L.static = true
  rows : ∀ r ∈ D.rows, rowB D.L r = true
  vrows : ∀ r ∈ D.vrows, vrowB D.L r = true
  srows : ∀ r ∈ D.srows, srowB D.L r = true
  xrows : ∀ r ∈ D.xrows, xrowB D.L r = true
  hrows : ∀ r ∈ D.hrows, hrowB r = true
  good : ∀ g ∈ D.L.good, (∃ r ∈ D.rows, r.g = g) ∨ ∃ r ∈ D.srows, r.g = g
  star : ∀ g ∈ D.L.star, ∃ r ∈ D.vrows, r.g = g
  exc : ∀ c q, D.L.P.clss[c]? = some q → q.flds ≠ [] → ∃ r ∈ D.xrows, r.c = c
  cl : ∀ p ∈ D.L.T.cl, p.2 < D.L.P.clss.length
theorem stP_of (h : D.static = true) : StP D := by
  obtain ⟨h1, h⟩ := ba h
  obtain ⟨h2, h⟩ := ba h
  obtain ⟨h3, h⟩ := ba h
  obtain ⟨h4, h⟩ := ba h
  obtain ⟨h5, h⟩ := ba h
  obtain ⟨h6, h⟩ := ba h
  obtain ⟨h7, h⟩ := ba h
  obtain ⟨h8, h⟩ := ba h
  obtain ⟨h9, h10⟩ := ba h
  have anyG : ∀ {α : Type} {l : List α} {f : α → Nat} {g : Nat}, (l.any fun r => f r == g) = true → ∃ r ∈ l, f r = g := fun {α l f g} e => by
    obtain ⟨r, m, e⟩ := List.any_eq_true.mp e
    exact ⟨r, m, by simpa using e⟩
  refine ⟨h1, fun r m => List.all_eq_true.mp h2 r m, fun r m => List.all_eq_true.mp h3 r m, fun r m => List.all_eq_true.mp h4 r m, fun r m => List.all_eq_true.mp h5 r m, fun r m => List.all_eq_true.mp h6 r m, fun g m => ?_, fun g m => anyG (List.all_eq_true.mp h8 g m), fun c q e n => ?_, fun p m => of_decide_eq_true (List.all_eq_true.mp h10 p m)⟩
  · rcases Bool.or_eq_true_iff.mp (List.all_eq_true.mp h7 g m) with z | z
    · exact .inl (anyG z)
    · exact .inr (anyG z)
  · rcases Bool.or_eq_true_iff.mp (List.all_eq_true.mp h9 (q, c) (List.mem_zipIdx_iff_getElem?.mpr e)) with z | z
    · exact absurd (List.isEmpty_iff.mp z) n
    · exact anyG z
theorem fa_of {L : LD} {g : Nat} {p : Str × Option Str} (e : L.locs[g]? = some p) : L.fa K g = fAd K p := by
  unfold LD.fa
  rw [List.getD_eq_getElem?_getD, e]
  rfl
theorem fd_of {L : LD} {g : Nat} {oc : Value} {od : Option Addr} {fd : FuncData} {osl : Array (Option Value)} (e : K.lookup (L.fa K g) = some ⟨oc, od, .func fd, osl⟩) : L.fd K g = fd := by
  unfold LD.fd
  rw [e]
/-- a def without defaults -/
theorem funD_plain {d : DefD} {f : Addr} {fd : FuncData} (F : FunD K d.name d.qual d.params d.body d.scope (d.dvs K) (d.kws K) f fd) (hd : d.dfl.isEmpty = true) :
    ∃ oc od kV doc pm an cdv ct osl, fd = PySem.W.fnOf d.name d.qual d.params d.body d.scope .none kV doc pm an cdv ct ∧ K.lookup f = some ⟨oc, od, .func (PySem.W.fnOf d.name d.qual d.params d.body d.scope .none kV doc pm an cdv ct), osl⟩ ∧ PySem.W.codeIn K cdv d.qual = true := by
  obtain ⟨oc, od, dV, kV, doc, pm, an, cdv, ct, osl, e, lk, hcd, hD, _⟩ := F.ex
  have : dV = .none := by
    rcases hD with ⟨_, z⟩ | ⟨z, _⟩
    · exact z
    · exact absurd (by unfold DefD.dvs; rw [List.isEmpty_iff.mp hd]; rfl) z
  subst this
  exact ⟨oc, od, kV, doc, pm, an, cdv, ct, osl, e, by rw [← e]; exact lk, hcd⟩
theorem sokB_ok {L : LD} {r : SRow} (h : sokB L file K r = true) (e : fnS K r.d.at_ = r.d.val) : PySem.W.keepIn K (.ref (fAd K r.d.at_)) = true ∧
    ∃ oc od osl kV doc pm an cda ct cc D, K.lookup (fAd K r.d.at_) = some ⟨oc, od, .func (PySem.W.ksFn r.d.name r.d.qual r.d.params r.d.body r.d.scope .none kV doc pm an (.ref cda) ct cc), osl⟩ ∧ PySem.W.codeIn K (.ref cda) r.d.qual = true ∧
      (∃ ccl cdd vs ccs f tf, K.lookup cda = some ⟨ccl, cdd, .fields vs, ccs⟩ ∧ vs[2]? = some (.str f tf) ∧ (file == f) = true) ∧ (∃ cl cld csl, K.lookup cc = some ⟨cl, cld, .cell (some (.ref D)), csl⟩) ∧ (∃ cdD, PySem.W.clsIn K D = some cdD) ∧
      PySem.W.typeIn K (.ref (L.fa K r.g2)) = some (.type "function") ∧ PySem.W.fnIn K (L.fa K r.g2) = true ∧ ∀ c ∈ r.cs, SupC K (L.ca K c) D (L.fa K r.g2) := by
  obtain ⟨h1, h⟩ := ba h
  refine ⟨h1, ?_⟩
  unfold fnS at e
  cases q : K.lookup (fAd K r.d.at_) with
  | none => rw [q] at h; cases h
  | some o =>
    obtain ⟨oc, od, dt, osl⟩ := o
    rw [q] at h e
    cases dt with
    | func fd =>
      obtain ⟨n1, n2, n3, n4, n5, n6, n7, n8, n9, n10, n11, n12, n13, n14, n15⟩ := fd
      have e2 : (some (n1, n2, n3, n4, n5, n6, n7.map (·.1), n15) : FnSW) = some (r.d.name, r.d.qual, r.d.params, FuncBody.stmts r.d.body, r.d.scope, mainGlobals, [("__class__" : Str)], builtinsNs) := e
      simp only [Option.some.injEq, Prod.mk.injEq] at e2
      obtain ⟨e1, e2, e3, e4, e5, e6, e7, e8⟩ := e2
      subst e1 e2 e3 e4 e5 e6 e8
      obtain ⟨k1, h⟩ := ba h
      obtain ⟨k2, h⟩ := ba h
      obtain ⟨k3, h⟩ := ba h
      obtain ⟨k4, h⟩ := ba h
      obtain ⟨k5, k6⟩ := ba h
      have d0 : n8 = .none := by cases n8 <;> first | rfl | cases k2
      subst d0
      cases n13 with
      | ref cda =>
        match n7, e7 with
        | [(y, cc)], e7 =>
          have ey : y = "__class__" := by simpa using e7
          subst ey
          have k3 : (match K.lookup cda with
            | some ⟨_, _, .fields vs, _⟩ => (match (vs[2]? : Option Value) with
              | some (.str f _) => file == f
              | _ => false)
            | _ => false) = true := k3
          have k4 : (match K.lookup cc with
            | some ⟨_, _, .cell (some (.ref D)), _⟩ => (PySem.W.clsIn K D).isSome && r.cs.all fun c => decide (PySem.W.mroIn K (L.ca K c) (.ref D) = some true) && eqO (PySem.W.ks_superIn K (L.ca K c) D "__init__") (some (some (.ref (L.fa K r.g2))))
            | _ => false) = true := k4
          split at k3
          · rename_i ccl cdd vs ccs hcd
            split at k3
            · rename_i f tf hf
              split at k4
              · rename_i cl cld D csl hcc
                obtain ⟨k7, k8⟩ := ba k4
                refine ⟨oc, od, osl, _, _, _, _, cda, _, cc, D, rfl, k1, ⟨ccl, cdd, vs, ccs, f, tf, hcd, hf, k3⟩, ⟨cl, cld, csl, hcc⟩, Option.isSome_iff_exists.mp k7, of_decide_eq_true k5, k6, fun c hc => ?_⟩
                obtain ⟨m1, m2⟩ := ba (List.all_eq_true.mp k8 c hc)
                exact ⟨of_decide_eq_true m1, eqO_ok m2⟩
              · cases k4
            · cases k3
          · cases k3
      | _ => cases k3
    | _ => cases h

theorem at_mem {α β : Type} {l : List α} {f g : α → β} (e : l.map f = l.map g) {a : α} (m : a ∈ l) : f a = g a := List.map_inj_left.mp e a m
theorem rowB_ok {L : LD} {r : FRow} (h : rowB L r = true) : L2.FnScope r.N (L.T.pss r.g) r.d.scope ∧ Plain r.d.params (L.T.pss r.g) ∧ (L.T.pss r.g).Nodup ∧ r.d.dfl.isEmpty = true ∧ L.locs[r.g]? = some r.d.at_ ∧ r.q.N = r.N.length ∧ r.q.np = (L.T.pss r.g).length := by
  obtain ⟨h1, h⟩ := ba h
  obtain ⟨h2, h⟩ := ba h
  obtain ⟨h3, h⟩ := ba h
  obtain ⟨h4, h⟩ := ba h
  obtain ⟨h5, h⟩ := ba h
  obtain ⟨h6, h7⟩ := ba h
  exact ⟨fscB_ok h1, plainB_ok h2, of_decide_eq_true h3, h4, of_decide_eq_true h5, of_decide_eq_true h6, of_decide_eq_true h7⟩
theorem vrowB_ok {L : LD} {r : FRow} (h : vrowB L r = true) : L2.FnScope r.N (L.T.pss r.g) r.d.scope ∧ (∃ pf pv, L.T.pss r.g = pf ++ [pv] ∧ StarP r.d.params pf pv) ∧ (L.T.pss r.g).Nodup ∧ r.d.dfl.isEmpty = true ∧ L.locs[r.g]? = some r.d.at_ ∧ r.q.N = r.N.length ∧ r.q.np = (L.T.pss r.g).length := by
  obtain ⟨h1, h⟩ := ba h
  obtain ⟨h2, h⟩ := ba h
  obtain ⟨h3, h⟩ := ba h
  obtain ⟨h4, h⟩ := ba h
  obtain ⟨h5, h⟩ := ba h
  obtain ⟨h6, h7⟩ := ba h
  exact ⟨fscB_ok h1, starB_ok h2, of_decide_eq_true h3, h4, of_decide_eq_true h5, of_decide_eq_true h6, of_decide_eq_true h7⟩
theorem srowB_ok {L : LD} {r : SRow} (h : srowB L r = true) : NScope r.N (L.T.pss r.g) ["__class__"] r.d.scope ∧ Plain r.d.params (L.T.pss r.g) ∧ (L.T.pss r.g).Nodup ∧ L.locs[r.g]? = some r.d.at_ ∧ r.q.N = r.N.length ∧ r.q.np = (L.T.pss r.g).length ∧
    r.g2 ∈ L.star ∧ (L.T.pss r.g2).length = 3 ∧ r.d.scope.names.lookup ("super" : Str) = some .globalImplicit ∧ ∃ ar, r.d.params.args.head? = some ar ∧ (L.T.pss r.g)[0]? = some ar.arg ∧ r.d.scope.names.lookup ar.arg = some .local := by
  obtain ⟨h1, h⟩ := ba h
  obtain ⟨h2, h⟩ := ba h
  obtain ⟨h3, h⟩ := ba h
  obtain ⟨h4, h⟩ := ba h
  obtain ⟨h5, h⟩ := ba h
  obtain ⟨h6, h⟩ := ba h
  obtain ⟨h7, h⟩ := ba h
  obtain ⟨h8, h⟩ := ba h
  obtain ⟨h9, h⟩ := ba h
  refine ⟨NdefX.nscope_by h1, plainB_ok h2, of_decide_eq_true h3, of_decide_eq_true h4, of_decide_eq_true h5, of_decide_eq_true h6, contains_mem h7, of_decide_eq_true h8, of_decide_eq_true h9, ?_⟩
  cases e : r.d.params.args.head? with
  | none => rw [e] at h; cases h
  | some ar =>
    rw [e] at h
    obtain ⟨a, b⟩ := ba h
    exact ⟨ar, rfl, of_decide_eq_true a, of_decide_eq_true b⟩
theorem exd_parts (e : D.ex file K = true) : allB D.L K = true ∧ (∀ r ∈ D.srows, sokB D.L file K r = true) ∧ PySem.W.nsIn K mainGlobals "super" = some none ∧ PySem.W.nsIn K PySem.cStatics "thirdparty.any" = some none ∧ (D.tf.map fun p => (cT K p).2).Nodup ∧ ∀ r ∈ D.hrows, PySem.W.nsIn K mainGlobals r.x = some (some (.ref (fAd K r.d.at_))) := by
  obtain ⟨h1, h⟩ := ba e
  obtain ⟨h2, h⟩ := ba h
  obtain ⟨h3, h⟩ := ba h
  obtain ⟨h4, h⟩ := ba h
  obtain ⟨h5, h6⟩ := ba h
  exact ⟨h1, fun r m => List.all_eq_true.mp h2 r m, eqO_ok h3, eqO_ok h4, of_decide_eq_true h5, fun r m => eqO_ok (List.all_eq_true.mp h6 r m)⟩
theorem npOf_eq {P : Prog} {g : Nat} {q : FunI} (e : P.funs[g]? = some q) : npOf P g = q.np := by
  unfold npOf
  rw [e]
theorem mem_fn1 {r : FRow} (m : r ∈ D.rows) : r.d ∈ D.fn := List.mem_append_left _ (List.mem_map_of_mem m)
theorem mem_fn2 {r : FRow} (m : r ∈ D.vrows) : r.d ∈ D.fn := List.mem_append_right _ (List.mem_append_left _ (List.mem_map_of_mem m))
theorem mem_fn3 {r : XRow} (m : r ∈ D.xrows) : r.d ∈ D.fn := List.mem_append_right _ (List.mem_append_right _ (List.mem_append_left _ (List.mem_map_of_mem m)))
theorem mem_fn4 {r : HRow} (m : r ∈ D.hrows) : r.d ∈ D.fn := List.mem_append_right _ (List.mem_append_right _ (List.mem_append_right _ (List.mem_map_of_mem m)))
theorem stat_ok (O : DescOk D) (S : SaysL D file h K) (KX : K.In h) (G : h.Ns mainGlobals mg) : Stat D.L.T (D.L.nm K O.attB) D.L.P K mg (D.L.fa K) (D.L.fd K) (· ∈ D.L.good) := by
  have st := stP_of O.st
  obtain ⟨x1, x2, x3, x4, x5, x6⟩ := exd_parts S.ex
  obtain ⟨p1, p2, p3, p4, p5, p6, p7, p8⟩ := allB_parts x1
  refine stat_of st.l x1 KX G O.tr.ini (fun g hg => ?_) fun x b hh e => ?_
  · rcases st.good g hg with ⟨r, m, rfl⟩ | ⟨r, m, rfl⟩
    · obtain ⟨a1, a2, a3, a4, a5, a6, a7⟩ := rowB_ok (st.rows r m)
      obtain ⟨fd, F⟩ := S.fns r.d (mem_fn1 m)
      obtain ⟨oc, od, kV, doc, pm, an, cdv, ct, osl, e, lk, hcd⟩ := funD_plain F a4
      rw [← fa_of (K := K) a5] at lk
      rw [fd_of lk]
      have hq : D.L.P.funs[r.g]? = some r.q := congrArg Prod.fst (at_mem O.tr.rows m)
      exact ⟨a2, a3, rfl, by rw [npOf_eq hq, a7]⟩
    · obtain ⟨a1, a2, a3, a4, a5, a6, _⟩ := srowB_ok (st.srows r m)
      obtain ⟨_, oc, od, osl, kV, doc, pm, an, cda, ct, cc, DD, lk, _⟩ := sokB_ok (x2 r m) (S.sns r m)
      rw [← fa_of (K := K) a4] at lk
      rw [fd_of lk]
      have hq : D.L.P.funs[r.g]? = some r.q := congrArg Prod.fst (at_mem O.tr.srows m)
      exact ⟨a2, a3, rfl, by rw [npOf_eq hq, a6]⟩
  · have e' := lookup_memN e
    rw [O.tr.hd] at e'
    obtain ⟨r, m, er⟩ := List.mem_map.mp e'
    cases er
    obtain ⟨h1, h⟩ := ba (st.hrows r m)
    obtain ⟨h2, h⟩ := ba h
    obtain ⟨h3, h⟩ := ba h
    obtain ⟨h4, h⟩ := ba h
    obtain ⟨h5, h⟩ := ba h
    obtain ⟨h6, h⟩ := ba h
    obtain ⟨h7, h⟩ := ba h
    obtain ⟨h8, h⟩ := ba h
    obtain ⟨h9, h10⟩ := ba h
    obtain ⟨fd, F⟩ := S.fns r.d (mem_fn4 m)
    obtain ⟨oc, od, kV, doc, pm, an, cdv, ct, osl, e1, lk, hcd⟩ := funD_plain F h3
    rw [of_decide_eq_true h5, of_decide_eq_true h6] at lk
    rw [of_decide_eq_true h6] at hcd
    have hc := at_mem O.tr.hrows m
    refine ⟨⟨_, oc, od, osl, _, _, _, kV, doc, pm, an, cdv, ct, r.N, r.aN, r.n, none, PySem.W.mg_of KX G (x6 r m), F.kp, lk, hcd, plainB_ok h2, fscB_ok h1, of_decide_eq_true h7, .inl (of_decide_eq_true h8), by simpa using h9, by simpa using h10, hc⟩, exq_ok p5 p4, fun x c e2 => ?_⟩
    have m2 := lookup_memN e2
    exact ⟨PySem.W.mg_of KX G (p3 _ m2).2, st.cl _ m2⟩
theorem oexS_ok (O : DescOk D) (S : SaysL D file h K) {pg : Program} {w : World} {base : Heap} : OexS (D.L.nm K O.attB) D.L.P K mg pg w base := by
  have st := stP_of O.st
  obtain ⟨x1, x2, x3, x4, x5, x6⟩ := exd_parts S.ex
  obtain ⟨p1, p2, p3, p4, p5, p6, p7, p8⟩ := allB_parts x1
  intro c q hq ne
  obtain ⟨r, m, rfl⟩ := st.exc c q hq ne
  have X := excB_ok ((clB_ok (p4 _ q hq)).exc ne)
  refine ⟨X.oex, fun f hf => ?_, X.few, ?_⟩
  · obtain ⟨k, hk, rfl⟩ := List.mem_map.mp hf
    exact X.no k hk
  · obtain ⟨h1, h⟩ := ba (st.xrows r m)
    obtain ⟨h2, h⟩ := ba h
    obtain ⟨h3, h⟩ := ba h
    obtain ⟨h4, h⟩ := ba h
    obtain ⟨h5, h6⟩ := ba h
    rw [hq] at h6
    cases eps : r.ps with
    | nil => rw [eps] at h6; cases h6
    | cons slf ps =>
      rw [eps] at h6
      obtain ⟨k1, h6⟩ := ba h6
      obtain ⟨k2, h6⟩ := ba h6
      obtain ⟨k3, h6⟩ := ba h6
      obtain ⟨k4, h6⟩ := ba h6
      obtain ⟨k5, k6⟩ := ba h6
      have hl : ps.length = q.flds.length := of_decide_eq_true k1
      obtain ⟨fd, F⟩ := S.fns r.d (mem_fn3 m)
      obtain ⟨oc, od, kV, doc, pm, an, cdv, ct, osl, e1, lk, hcd⟩ := funD_plain F h4
      have ea : fAd K r.d.at_ = ma K (D.L.ca K r.c) "__init__" := by rw [of_decide_eq_true h5]; rfl
      rw [ea] at lk
      have sc := fscB_ok h1
      refine ⟨_, _, r.ps, X.ini, X.ty, L2.fn_of (k := 0) (N := r.N) lk hcd sc (fun vs H Q E hs => ?_) fun A outer s H vs Q E hr hs => ?_, plainB_ok h2, of_decide_eq_true h3, rfl, ?_⟩
      · obtain ⟨a, C, ys, rfl, e2, _⟩ := hs
        rw [eps, List.length_cons, List.length_cons, e2, hl, List.length_map]
      · refine ⟨_, pss_init (slf := slf) (X := L2.cxOf (L2.CX pg w) pg w K mg base r.N r.d.qual r.d.scope _ cdv A outer s H E) (of_decide_eq_true k3) (.inl (of_decide_eq_true k4)) (by simpa using k5) (by simpa using k6) (iniB_ok rfl rfl k2), ?_⟩
        refine tI_new hs (fun i v e => ?_) fun _ _ z => z
        show (L2.start r.N vs)[i]? = _
        unfold L2.start
        rw [List.getElem?_append_left (by rw [List.length_map]; exact (List.getElem?_eq_some_iff.mp e).1), List.getElem?_map, e]
        rfl
      · rw [eps, List.length_cons, hl, List.length_map]
theorem cSup_ok {T : CT} {n : Nat} {mu : List Nat} {rl : Bool} {N : List Str} {sc : Scope} {g2 : Nat} {cs : List Nat} {body : List Stmt} {ib : List IS} (e : cSup T n mu rl N sc g2 cs body = some ib) :
    ∃ p0 p1 ap cp ep w es rest iw ies ir, body = .Expr (.Call (.Attribute (.Call (.Name "super" p0) [] [] p1) "__init__" ap) (w :: es) [] cp) ep :: rest ∧ noStars (w :: es) = true ∧ (w :: es).length < 29 ∧ (ap.endLine == cp.line) = true ∧
      allE ((cET T n).1 ⟨N, sc, some sc, false⟩) (w :: es) = some (iw :: ies) ∧ cB T (cET T n).1 (cET T n).2 mu rl ⟨N, sc, some sc, false⟩ n rest = some ir ∧ ib = .expr (.supr g2 cs iw ies) :: ir := by
  unfold cSup at e
  split at e
  · rename_i x p0 p1 m ap w es cp ep rest
    split at e
    · rename_i c
      obtain ⟨c1, c⟩ := ba c
      obtain ⟨c2, c⟩ := ba c
      obtain ⟨c3, c⟩ := ba c
      obtain ⟨c4, c5⟩ := ba c
      have e1 : x = "super" := by simpa using c1
      have e2 : m = "__init__" := by simpa using c2
      subst e1 e2
      split at e
      · rename_i iw ies ir h1 h2
        cases e
        exact ⟨p0, p1, ap, cp, ep, w, es, rest, iw, ies, ir, rfl, c3, of_decide_eq_true c4, c5, h1, h2, rfl⟩
      · cases e
    · cases e
  · cases e
theorem infos_ok (O : DescOk D) (S : SaysL D file h K) (KX : K.In h) (G : h.Ns mainGlobals mg) {pg : Program} {base : Heap} (hf : (pg.main.file : Str) = file) (htop : (pg.main.scope.names.lookup ("super" : Str)).isSome = false) (hT : ∀ p ∈ D.cs K, LamX.TabB base mg p.1 p.2) :
    Infos D.L.T (D.L.nm K O.attB) (LamX.Tabs (D.TL K)) D.L.P pg K mg base (D.L.fa K) (D.L.fd K) (· ∈ D.L.good) (· ∈ D.L.star) := by
  have st := stP_of O.st
  obtain ⟨x1, x2, x3, x4, x5, x6⟩ := exd_parts S.ex
  refine ⟨fun g hg => ?_, fun g hg => ?_⟩
  · rcases st.good g hg with ⟨r, m, rfl⟩ | ⟨r, m, rfl⟩
    · obtain ⟨a1, a2, a3, a4, a5, a6, a7⟩ := rowB_ok (st.rows r m)
      obtain ⟨fd, F⟩ := S.fns r.d (mem_fn1 m)
      obtain ⟨oc, od, kV, doc, pm, an, cdv, ct, osl, e, lk, hcd⟩ := funD_plain F a4
      have lk0 := lk
      rw [← fa_of (K := K) a5] at lk
      have hq : D.L.P.funs[r.g]? = some r.q := congrArg Prod.fst (at_mem O.tr.rows m)
      have hc : cB D.L.T (cET D.L.T r.n).1 (cET D.L.T r.n).2 r.mu r.rl ⟨r.N, r.d.scope, none, r.lam⟩ r.n r.d.body = some r.q.body := congrArg Prod.snd (at_mem O.tr.rows m)
      refine ⟨⟨_, hq⟩, .inl ⟨oc, od, osl, _, _, _, _, _, .none, kV, doc, pm, an, cdv, ct, r.n, r.mu, r.rl, r.lam, r.N, r.q, fun hl => ?_, lk, fd_of lk, hcd, a1, hq, a6, a7, hc⟩⟩
      obtain ⟨c, rfl⟩ := He.codeIn_ref hcd
      have mf : r ∈ D.rows.filter (·.lam) := List.mem_filter.mpr ⟨m, hl⟩
      have ec : He.codeOf K r.d.at_ = c := He.codeOf_eq lk0 rfl
      have hm : ((cT K r.d.at_).2, r.d.qual ++ (".<locals>." : Str) ++ ("<lambda>" : Str)) ∈ D.TL K := List.mem_map.mpr ⟨r, mf, rfl⟩
      refine ⟨D.TL K, c, (cT K r.d.at_).2, fun H => Iff.rfl, ?_, rfl, hm, fun p hp e => ?_⟩
      · have := hT (cT K r.d.at_) (List.mem_map.mpr ⟨r.d.at_, List.mem_map.mpr ⟨r, mf, rfl⟩, rfl⟩)
        rw [show (cT K r.d.at_).1 = c from ec] at this
        exact this
      · have nd : ((D.TL K).map (·.1)).Nodup := by
          have e : (D.TL K).map (·.1) = D.tf.map fun p => (cT K p).2 := by
            unfold Desc.TL Desc.tf
            rw [List.map_map, List.map_map]
            rfl
          rw [e]; exact x5
        obtain ⟨i, hi, ei⟩ := List.mem_iff_getElem.mp hp
        obtain ⟨j, hj, ej⟩ := List.mem_iff_getElem.mp hm
        have : i = j := by
          have e1 : ((D.TL K).map (·.1))[i]? = some p.1 := by rw [List.getElem?_map, List.getElem?_eq_getElem hi, ei]; rfl
          have e2 : ((D.TL K).map (·.1))[j]? = some p.1 := by rw [List.getElem?_map, List.getElem?_eq_getElem hj, ej, e]; rfl
          exact (List.getElem?_inj (by simpa using hi) nd).mp (e1.trans e2.symm)
        subst this
        rw [← ei, ej]
    · obtain ⟨a1, a2, a3, a4, a5, a6, a7, a8, a9, ar, b1, b2, b3⟩ := srowB_ok (st.srows r m)
      obtain ⟨_, oc, od, osl, kV, doc, pm, an, cda, ct, cc, DD, lk, hcd, h1, h2, h3, h4, h5, h6⟩ := sokB_ok (x2 r m) (S.sns r m)
      rw [← fa_of (K := K) a4] at lk
      have hq : D.L.P.funs[r.g]? = some r.q := congrArg Prod.fst (at_mem O.tr.srows m)
      have hc : cSup D.L.T r.n r.mu r.rl r.N r.d.scope r.g2 r.cs r.d.body = some r.q.body := congrArg Prod.snd (at_mem O.tr.srows m)
      obtain ⟨p0, p1, ap, cp, ep, w, es, rest, iw, ies, ir, eb, c1, c2, c3, c4, c5, c6⟩ := cSup_ok hc
      rw [eb] at lk
      refine ⟨⟨_, hq⟩, .inr ⟨oc, od, osl, _, _, _, _, kV, doc, pm, an, cda, ct, cc, r.n, r.mu, r.rl, r.N, r.q, p0, p1, ap, cp, ep, w, es, rest, ar, DD, r.g2, r.cs, iw, ies, ir, lk, fd_of lk, hcd, a1, hq, a5, a6, c4, c5, c6, c1, c2, c3, ?_, b2, b3, a9, ?_, h2, h3, htop, PySem.W.mg_none_of KX G x3, x4, h4, h5, a7, a8, h6⟩⟩
      · rw [a2.po]; exact b1
      · obtain ⟨ccl, cdd, vs, ccs, f, tf, k1, k2, k3⟩ := h1
        exact ⟨ccl, cdd, vs, ccs, f, tf, k1, k2, by rw [hf]; exact k3⟩
  · obtain ⟨r, m, rfl⟩ := st.star g hg
    obtain ⟨a1, ⟨pf, pv, a2, a8⟩, a3, a4, a5, a6, a7⟩ := vrowB_ok (st.vrows r m)
    obtain ⟨fd, F⟩ := S.fns r.d (mem_fn2 m)
    obtain ⟨oc, od, kV, doc, pm, an, cdv, ct, osl, e, lk, hcd⟩ := funD_plain F a4
    rw [← fa_of (K := K) a5] at lk
    have hq : D.L.P.funs[r.g]? = some r.q := congrArg Prod.fst (at_mem O.tr.vrows m)
    have hc : cB D.L.T (cET D.L.T r.n).1 (cET D.L.T r.n).2 r.mu r.rl ⟨r.N, r.d.scope, none, false⟩ r.n r.d.body = some r.q.body := congrArg Prod.snd (at_mem O.tr.vrows m)
    refine ⟨⟨_, hq⟩, ⟨oc, od, osl, _, _, _, _, _, kV, doc, pm, an, cdv, ct, r.n, r.mu, r.rl, r.N, r.q, pf, pv, lk, hcd, a2, by rw [← a2]; exact a1, a8, ?_, hq, a6, a7, hc⟩⟩
    rw [a2] at a3
    exact (List.nodup_append.mp a3).1
/-- what the law comes to -/
def Goal (P : Prog) (lev law : Nat) : Prop := ∀ ns : List Int, ns.length ≤ 63 → (∀ z ∈ ns, Builtin.Int.intBits z ≤ 1048576) → ∃ st, callF P lev law [.rol ns] [] = .ok (.bl true) st
theorem law_sp {P : Prog} {NM : Nm} {TL : List (Addr × Str)} {lev law : Nat} (g : Goal P lev law) {H : Hp} {a : Addr} {ns : List Int} (hl : ns.length ≤ 63) (hb : ∀ z ∈ ns, Builtin.Int.intBits z ≤ 1048576) (hT : LamX.Tabs TL H) (hS : SqL K H a (ns.map V.int)) :
    spD K NM (LamX.Tabs TL) 1 (callF P lev law) [.ref a] H (fun v _ => v = .bl true) fun _ _ _ => False := by
  obtain ⟨st, e⟩ := g ns hl hb
  have key : ∃ F : Hp, (∀ b o, F b = some o → H b = some o) ∧ (∀ b ps, F b ≠ some (.tbl ps)) ∧ SqL K F a (ns.map V.int) := by
    rcases hS with hR | hK
    · have e0 : (fun b => if b = a then H a else none : Hp) a = H a := if_pos rfl
      refine ⟨fun b => if b = a then H a else none, fun b o z => ?_, fun b ps z => ?_, .inl ?_⟩
      · by_cases q : b = a
        · subst q
          exact e0.symm.trans z
        · have z : (if b = a then H a else none) = some o := z
          rw [if_neg q] at z; cases z
      · have z : (if b = a then H a else none) = some (.tbl ps) := z
        by_cases q : b = a
        · rw [if_pos q] at z
          rcases hR with y | ⟨o, y⟩ <;> rw [y] at z <;> cases z
        · rw [if_neg q] at z; cases z
      · rcases hR with y | ⟨o, y⟩
        · exact .inl (e0.trans y)
        · exact .inr ⟨o, e0.trans y⟩
    · refine ⟨fun _ => none, fun b o z => ?_, fun b ps z => ?_, .inr hK⟩
      · cases z
      · cases z
  obtain ⟨F, f1, f2, f3⟩ := key
  refine ⟨[.rol ns], [], ⟨F, fun _ => 0, fun _ => none⟩, rfl, .cons (.rol f3) .nil, ⟨f1, fun i c z => ?_, fun i j c d z => ?_, hT, fun b o z => ?_, ⟨f2, fun b ps z => ?_⟩⟩, ?_⟩
  · simp at z
  · simp at z
  · cases z
  · cases z
  rw [e]
  intro v H' G' _ _ rv
  have rv : RepV K NM G'.F v (.bl true) := rv
  cases rv
  rfl
/-- THE END: a law from its description -/
theorem walk_L {l : PySem.W.OpenLaw} {q : Program} {loose : List Str} {XP : (Str → Option Value) → Heap → Prop} {D : Desc} {n lev : Nat} {d : DefRec} (O : DescOk D) (g : Goal D.L.P lev 0) (hlev : lev ≤ 32) (hlaw : 0 ∈ D.L.good) (hps : ∃ x, D.L.T.pss 0 = [x])
    (hn : l.most = some 63) (hdf : d.params.defaults = []) (hdn : d.name = ("law" : Str)) (htop : (l.prog.main.scope.names.lookup ("super" : Str)).isSome = false) (hglo : (List.lookup ("law" : Str) D.L.T.fn) = some 0) :
    PySem.W.WalkO q loose XP (hookL D (l.prog.main.file : Str) n).says l.row.toRowW d [] (fun f vs => PySem.call f vs) := by
  refine Att.attach_callB hn hdf fun w s₀ s₁ mg mb fa o pm cd doc a vs ns G Y ho hd hcd hmg hobj hints hlen hbits hg => ?_
  obtain ⟨K, KX, S⟩ := Y
  obtain ⟨x, hx⟩ := hps
  have stt := stat_ok O S KX G.T.g
  have hT1 : ∀ p ∈ D.cs K, s₁.heap.get? p.2 = some { cls := .none, data := .fields #[] } := fun p hp => by
    obtain ⟨t, ht, rfl⟩ := List.mem_map.mp hp
    exact S.empty t ht
  have hT2 : ∀ p ∈ D.cs K, K.lookup p.2 = none := fun p hp => by
    obtain ⟨t, ht, rfl⟩ := List.mem_map.mp hp
    exact S.out t ht
  have hT3 : ∀ p ∈ D.cs K, PySem.W.CodeHd s₁.heap p.1 p.2 := fun p hp => by
    obtain ⟨t, ht, rfl⟩ := List.mem_map.mp hp
    exact PySem.W.codeHd_of_K KX (S.hd t ht)
  have efa : fa = D.L.fa K 0 := by
    have e1 := (stt.fn _ _ hglo).2
    rw [hdn] at hmg
    rw [hmg] at e1
    injection e1 with e1
    injection e1
  subst efa
  obtain ⟨pl, nd, dv, _, _⟩ := stt.pl 0 hlaw
  rw [hx] at pl nd
  refine LamX.law_callTs (CX := L2.CX l.prog w) (k := 7 * lev + 1) (cs := D.cs K) (fd := D.L.fd K 0) (x := x) (sp := spD K (D.L.nm K O.attB) (LamX.Tabs (D.TL K)) 1 (callF D.L.P lev 0)) KX G.T.g G.T.b G.T.builtins G.T.nolimit hg hT1 hT2 hT3 G.T.bmain hobj hints (Nat.le_trans hlen (by decide)) ⟨rfl, ?_, ?_⟩ (fun base hK hN hB => ?_) (fun s u => ?_) (fun H hH hS => ?_) fun H e s' z => ?_
  · have e1 : callerA.depth ≤ 301 := by decide
    have e2 : recursionLimit = 1000 := rfl
    omega
  · have e1 : callerA.units ≤ 100 := by decide
    have e2 : 6000 ≤ cLine := by decide
    omega
  · have I := infos_ok (base := base) O S KX G.T.g (pg := l.prog) rfl htop hB
    have := ((prom_ok (tabs_tp _) stt (oexS_ok (mg := mg) O S (pg := l.prog) (w := w) (base := base)) I lev).1.1) 0 hlaw
    rw [hx] at this
    exact this
  · have := bind_plain (fd := D.L.fd K 0) (us := [u]) (ws := []) (ks := []) pl nd dv rfl rfl (by simp)
    exact .of_eq this
  · refine law_sp g hlen hbits (fun p hp => ?_) hS
    obtain ⟨r, mr, rfl⟩ := List.mem_map.mp hp
    exact LamX.TabS.nil (hH (cT K r.d.at_) (List.mem_map.mpr ⟨r.d.at_, List.mem_map.mpr ⟨r, mr, rfl⟩, rfl⟩))
  · obtain ⟨_, _, _, _, _, _, _, _, _, _, _, _, _, z⟩ := z
end
end Z

set_option linter.all false
set_option maxRecDepth 100000
set_option maxHeartbeats 2000000
namespace ME
open Z (Dat Cell St Env Res opt view raw settle live BOp COp big binop toPy toPys shapedO eqD isInts inD isStr isNonD cmpop truth ixD ixL cut slD BI LM PM CR Tgt HE IE IT It IS FunI ClsI Prog bindT wipeE tyIs isiD npOf plainC isiOk ownEq datC fldD belowC excQ hasFld evH evHs isBls isStrs isTupD seqOf maxI minI cmpD ltD encD isT1 isN0 okP okSort sortD sortZ biD bi2D rngOk rngD joinD pmD pmT isLst lmD fmtD keyD valD putD setIxD putK permD loopC Fl loopF loopW Fun setAll ev evT evs evD evF evO evI exS exB parG storeFld storeIx runF callF REx)
open PySem (Str PyData)
open Z.Res
section
variable {P : Prog} {Φ Ψ : Fun}
@[simp] theorem ev_e0 : ev P Φ Ψ (.const d) u1 s = (.ok d s) := by simp only [ev] <;> rfl
@[simp] theorem ev_e1 : ev P Φ Ψ (.var i) δ s = (opt (δ.getD i none) s) := by simp only [ev] <;> rfl
@[simp] theorem ev_e2 : ev P Φ Ψ (.bin op a b) δ s = ((ev P Φ Ψ a δ s).bnd fun x s => (ev P Φ Ψ b δ s).bnd fun y s => opt (binop op (view s (raw x)) (view s (raw y))) s) := by simp only [ev] <;> rfl
@[simp] theorem ev_e3 : ev P Φ Ψ (.neg a) δ s = ((ev P Φ Ψ a δ s).bnd fun x s => opt (match x with
    | .int i => some (.int (-i))
    | _ => none) s) := by simp only [ev] <;> rfl
@[simp] theorem ev_e4 : ev P Φ Ψ (.inv a) δ s = ((ev P Φ Ψ a δ s).bnd fun x s => opt (match x with
    | .int i => some (.int (PySem.Builtin.bitNot i))
    | _ => none) s) := by simp only [ev] <;> rfl
@[simp] theorem ev_e5 : ev P Φ Ψ (.cmp op a b) δ s = ((ev P Φ Ψ a δ s).bnd fun x s => (ev P Φ Ψ b δ s).bnd fun y s => match ownEq P op (view s (raw x)) (view s (raw y)) with
    | some (f, neg) => (Ψ f [raw x, raw y] s).bnd fun d s => (match d with
      | .bl k => .ok (.bl (k != neg)) s
      | _ => .stuck)
    | none => opt ((cmpop op (view s (raw x)) (view s (raw y))).map .bl) s) := by simp only [ev] <;> rfl
@[simp] theorem ev_e6 : ev P Φ Ψ (.chain op op2 a b c) δ s = ((ev P Φ Ψ a δ s).bnd fun x s => (ev P Φ Ψ b δ s).bnd fun y s => (opt (cmpop op (view s (raw x)) (view s (raw y))) s).bnd fun k s =>
      if k = true then (ev P Φ Ψ c δ s).bnd fun z s => opt ((cmpop op2 (view s (raw y)) (view s (raw z))).map .bl) s else .ok (.bl false) s) := by simp only [ev] <;> rfl
@[simp] theorem ev_e7 : ev P Φ Ψ (.and_ a b) δ s = ((ev P Φ Ψ a δ s).bnd fun x s => (opt (truth (view s (raw x))) s).bnd fun k s => if k = true then ev P Φ Ψ b δ s else .ok (raw x) s) := by simp only [ev] <;> rfl
@[simp] theorem ev_e8 : ev P Φ Ψ (.or_ a b) δ s = ((ev P Φ Ψ a δ s).bnd fun x s => (opt (truth (view s (raw x))) s).bnd fun k s => if k = true then .ok (raw x) s else ev P Φ Ψ b δ s) := by simp only [ev] <;> rfl
@[simp] theorem ev_e9 : ev P Φ Ψ (.not_ a) δ s = ((ev P Φ Ψ a δ s).bnd fun x s => (opt (truth (view s (raw x))) s).bnd fun k s => .ok (.bl (!k)) s) := by simp only [ev] <;> rfl
@[simp] theorem ev_e10 : ev P Φ Ψ (.ite c a b) δ s = ((evT P Φ Ψ c δ s).bnd fun k s => if k = true then ev P Φ Ψ a δ s else ev P Φ Ψ b δ s) := by simp only [ev] <;> rfl
@[simp] theorem ev_e11 : ev P Φ Ψ (.call f as pm) δ s = ((evs P Φ Ψ as δ s).bnd fun ds s => (opt (permD pm ds) s).bnd fun vs s => Φ f vs s) := by simp only [ev] <;> rfl
/-- an instance is made -/
def mkD (P : Prog) (Ψ : Fun) (c : Nat) (vs : List Dat) (s : St) : Res Dat := match P.clss[c]? with
    | some q => (match q.init with
      | some f => (Ψ f (.obj s.length :: vs) (s ++ [.ins c []])).bnd fun r s' => if isNonD r then (if q.lv then .ok (.obj s.length) (s'.take (s.length + 1)) else
          (settle (.obj s.length) s').bnd fun d s' => .ok d (s'.take s.length)) else .stuck
      | none => .stuck)
    | none => .stuck
@[simp] theorem ev_e12 : ev P Φ Ψ (.make c as pm) δ s = ((evs P Φ Ψ as δ s).bnd fun ds s => (opt (permD pm ds) s).bnd fun vs s => mkD P Ψ c vs s) := by
  rw [ev]; rfl
@[simp] theorem ev_e13 : ev P Φ Ψ (.meth m o as) δ s = ((ev P Φ Ψ o δ s).bnd fun x s => match view s (raw x) with
    | .ins c fs => (match P.clss[c]? with
      | some q => (match q.meths.lookup m, fs.lookup m with
        | some f, none => (evs P Φ Ψ as δ s).bnd fun ds s => if npOf P f = ds.length + 1 then Φ f (raw x :: ds) s else .stuck
        | _, _ => .stuck)
      | none => .stuck)
    | _ => .stuck) := by simp only [ev] <;> rfl
@[simp] theorem ev_e14 : ev P Φ Ψ (.bi b a) δ s = ((ev P Φ Ψ a δ s).bnd fun x s => opt (biD b (view s (raw x))) s) := by simp only [ev] <;> rfl
@[simp] theorem ev_e15 : ev P Φ Ψ (.bi2 b a c) δ s = ((ev P Φ Ψ a δ s).bnd fun x s => (ev P Φ Ψ c δ s).bnd fun y s => opt (bi2D b (view s (raw x)) (view s (raw y))) s) := by simp only [ev] <;> rfl
@[simp] theorem ev_e16 : ev P Φ Ψ (.range a) δ s = ((ev P Φ Ψ a δ s).bnd fun x s => match x with
    | .int j => if rngOk j && big j.toNat then .ok (.fl (rngD 0 j)) s else .stuck
    | _ => .stuck) := by simp only [ev] <;> rfl
@[simp] theorem ev_e17 : ev P Φ Ψ (.sortBy f a) δ s = ((ev P Φ Ψ a δ s).bnd fun x s => match view s (raw x) with
    | .lst xs => (loopC (fun x s => (Φ f [x] s).bnd fun k s => .ok (some k) s) xs s).calm.bnd fun ks s => if okSort ks then .ok (.fl (sortZ (ks.zip xs))) s else .stuck
    | _ => .stuck) := by simp only [ev] <;> rfl
@[simp] theorem ev_e18 : ev P Φ Ψ (.isi a cs) δ s = ((ev P Φ Ψ a δ s).bnd fun x s => if isiOk P (view s (raw x)) then .ok (.bl (cs.any (isiD P (view s (raw x))))) s else .stuck) := by simp only [ev] <;> rfl
@[simp] theorem ev_e19 : ev P Φ Ψ (.fld a k) δ s = ((ev P Φ Ψ a δ s).bnd fun x s => opt (fldD P (view s (raw x)) k) s) := by simp only [ev] <;> rfl
@[simp] theorem ev_e20 : ev P Φ Ψ (.ix a i) δ s = ((ev P Φ Ψ a δ s).bnd fun x s => (ev P Φ Ψ i δ s).bnd fun y s => opt (ixD (view s (raw x)) y) s) := by simp only [ev] <;> rfl
@[simp] theorem ev_e21 : ev P Φ Ψ (.sl a lo hi) δ s = ((ev P Φ Ψ a δ s).bnd fun x s => (evO P Φ Ψ lo δ s).bnd fun l s => (evO P Φ Ψ hi δ s).bnd fun h s => opt (slD (view s (raw x)) l h) s) := by simp only [ev] <;> rfl
@[simp] theorem ev_e22 : ev P Φ Ψ (.disp es) δ s = ((evD P Φ Ψ es δ s).bnd fun ds s => if big ds.length then .ok (.fl ds) s else .stuck) := by simp only [ev] <;> rfl
@[simp] theorem ev_e23 : ev P Φ Ψ (.tupl es) δ s = ((evD P Φ Ψ es δ s).bnd fun ds s => if big ds.length then .ok (.tup ds) s else .stuck) := by simp only [ev] <;> rfl
@[simp] theorem ev_e24a {wp : List Nat} : ev P Φ Ψ (.comp elt tg it none wp) δ s = ((evI P Φ Ψ it δ s).bnd fun xs s => if big xs.length then (loopC (fun x s => (opt (bindT tg x (wipeE δ wp)) s).bnd fun δ s => (ev P Φ Ψ elt δ s).bnd fun y s => (settle y s).bnd fun y s => .ok (some y) s) xs s).calm.bnd fun ys s => .ok (.fl ys) s else .stuck) := by
  rw [ev] <;> rfl
@[simp] theorem ev_e24b {c : IT} {wp : List Nat} : ev P Φ Ψ (.comp elt tg it (some c) wp) δ s = ((evI P Φ Ψ it δ s).bnd fun xs s => if big xs.length then (loopC (fun x s => (opt (bindT tg x (wipeE δ wp)) s).bnd fun δ s => (evT P Φ Ψ c δ s).bnd fun k s => if k = true then (ev P Φ Ψ elt δ s).bnd fun y s => (settle y s).bnd fun y s => .ok (some y) s else .ok none s) xs s).calm.bnd fun ys s => .ok (.fl ys) s else .stuck) := by
  rw [ev] <;> rfl
@[simp] theorem ev_e25 : ev P Φ Ψ (.lm m o as) δ s = ((ev P Φ Ψ o δ s).bnd fun x s => if isLst s x then (evD P Φ Ψ as δ s).bnd fun ds s => match x with
    | .obj i => (match s[i]? with
      | some (.lst xs) => (match lmD m xs ds with
        | some (ys, r) => .ok r (s.set i (.lst ys))
        | none => .stuck)
      | _ => .stuck)
    | _ => .stuck else .stuck) := by simp only [ev] <;> rfl
@[simp] theorem ev_e26 : ev P Φ Ψ (.pm m o as) δ s = ((ev P Φ Ψ o δ s).bnd fun x s => if pmT m (view s (raw x)) then (evs P Φ Ψ as δ s).bnd fun ds s => opt (pmD m (view s (raw x)) (ds.map (view s))) s else .stuck) := by simp only [ev] <;> rfl
@[simp] theorem ev_e27 : ev P Φ Ψ (.fstr es) δ s = (evF P Φ Ψ es Str.empty δ s) := by simp only [ev] <;> rfl
@[simp] theorem ev_e28 : ev P Φ Ψ (.newd) u1 s = (.ok (.fd []) s) := by simp only [ev] <;> rfl
@[simp] theorem ev_e29 : ev P Φ Ψ (.str_ m a) δ s = ((ev P Φ Ψ a δ s).bnd fun x s => match view s (raw x) with
    | .ins c _ => (match P.clss[c]? with
      | some q => (match q.meths.lookup m with
        | some f => (Φ f [raw x] s).bnd fun d s => if isStr d then .ok d s else .stuck
        | none => .stuck)
      | none => .stuck)
    | d => opt (biD .str d) s) := by simp only [ev] <;> rfl
@[simp] theorem ev_e30 : ev P Φ Ψ (.heard e b h) δ s = (match ev P Φ Ψ e δ s with
    | .ok _ s' => .ok .non (s'.take s.length)
    | .err c fs s' => if excQ P c && belowC P c [b] then opt (evH P c fs h) (s'.take s.length) else .stuck
    | .stuck => .stuck) := by simp only [ev] <;> rfl
@[simp] theorem ev_e31 : ev P Φ Ψ (.supr g cs w es) δ s = ((opt (δ.getD 0 none) s).bnd fun x s => match x with
    | .obj i => (match s[i]? with
      | some (.ins c _) => if cs.contains c then (ev P Φ Ψ w δ s).bnd fun d s => (settle d s).bnd fun d s => (evD P Φ Ψ es δ s).bnd fun rs s => if big rs.length then Φ g [.obj i, d, .tup rs] s else .stuck else .stuck
      | _ => .stuck)
    | _ => .stuck) := by simp only [ev] <;> rfl
@[simp] theorem evT_e0 : evT P Φ Ψ (.not_ a) δ s = ((evT P Φ Ψ a δ s).bnd fun k s => .ok (!k) s) := by simp only [evT] <;> rfl
@[simp] theorem evT_e1 : evT P Φ Ψ (.and_ a b) δ s = ((evT P Φ Ψ a δ s).bnd fun k s => if k = true then evT P Φ Ψ b δ s else .ok false s) := by simp only [evT] <;> rfl
@[simp] theorem evT_e2 : evT P Φ Ψ (.or_ a b) δ s = ((evT P Φ Ψ a δ s).bnd fun k s => if k = true then .ok true s else evT P Φ Ψ b δ s) := by simp only [evT] <;> rfl
@[simp] theorem evT_e3 : evT P Φ Ψ (.val e) δ s = ((ev P Φ Ψ e δ s).bnd fun x s => opt (truth (view s (raw x))) s) := by simp only [evT] <;> rfl
@[simp] theorem evs_e0 : evs P Φ Ψ ([]) u1 s = (.ok [] s) := by simp only [evs] <;> rfl
@[simp] theorem evs_e1 : evs P Φ Ψ (e :: r) δ s = ((ev P Φ Ψ e δ s).bnd fun d s => (evs P Φ Ψ r δ s).bnd fun ds s => .ok (raw d :: ds) s) := by simp only [evs] <;> rfl
@[simp] theorem evD_e0 : evD P Φ Ψ ([]) u1 s = (.ok [] s) := by simp only [evD] <;> rfl
@[simp] theorem evD_e1 : evD P Φ Ψ (e :: r) δ s = ((ev P Φ Ψ e δ s).bnd fun d s => (settle d s).bnd fun d s => (evD P Φ Ψ r δ s).bnd fun ds s => .ok (d :: ds) s) := by simp only [evD] <;> rfl
@[simp] theorem evF_e0 : evF P Φ Ψ ([]) acc u1 s = (.ok (.str acc) s) := by simp only [evF] <;> rfl
@[simp] theorem evF_e1 : evF P Φ Ψ (e :: r) acc δ s = ((ev P Φ Ψ e δ s).bnd fun d s => (opt (fmtD d) s).bnd fun y s => if big (acc ++ y).length then evF P Φ Ψ r (acc ++ y) δ s else .stuck) := by simp only [evF] <;> rfl
@[simp] theorem evO_e0 : evO P Φ Ψ (none) u1 s = (.ok none s) := by simp only [evO] <;> rfl
@[simp] theorem evO_e1 : evO P Φ Ψ (some e) δ s = ((ev P Φ Ψ e δ s).bnd fun x s => match x with
    | .int i => .ok (some i) s
    | _ => .stuck) := by simp only [evO] <;> rfl
@[simp] theorem evI_e0 : evI P Φ Ψ (.val e) δ s = ((ev P Φ Ψ e δ s).bnd fun d s => (settle d s).bnd fun d s => opt (seqOf d) s) := by simp only [evI] <;> rfl
@[simp] theorem evI_e1 : evI P Φ Ψ (.rng1 a) δ s = ((ev P Φ Ψ a δ s).bnd fun x s => match x with
    | .int j => if rngOk j then .ok (rngD 0 j) s else .stuck
    | _ => .stuck) := by simp only [evI] <;> rfl
@[simp] theorem evI_e2 : evI P Φ Ψ (.rng2 a b) δ s = ((ev P Φ Ψ a δ s).bnd fun x s => (ev P Φ Ψ b δ s).bnd fun y s => match x, y with
    | .int i, .int j => if rngOk i && rngOk j then .ok (rngD i j) s else .stuck
    | _, _ => .stuck) := by simp only [evI] <;> rfl
@[simp] theorem evI_e3 : evI P Φ Ψ (.enum e) δ s = ((ev P Φ Ψ e δ s).bnd fun d s => (settle d s).bnd fun d s => match d with
    | .lst xs => .ok (xs.zipIdx.map fun p => .tup [.int p.2, p.1]) s
    | _ => .stuck) := by simp only [evI] <;> rfl
@[simp] theorem evI_e4 : evI P Φ Ψ (.zip2 a b) δ s = ((ev P Φ Ψ a δ s).bnd fun x s => (settle x s).bnd fun x s => (ev P Φ Ψ b δ s).bnd fun y s => (settle y s).bnd fun y s => match seqOf x, seqOf y with
    | some xs, some ys => if isTupD x == isTupD y then .ok ((xs.zip ys).map fun p => .tup [p.1, p.2]) s else .stuck
    | _, _ => .stuck) := by simp only [evI] <;> rfl
@[simp] theorem evI_e5 : evI P Φ Ψ (.zip3 a b c) δ s = ((ev P Φ Ψ a δ s).bnd fun x s => (settle x s).bnd fun x s => (ev P Φ Ψ b δ s).bnd fun y s => (settle y s).bnd fun y s => (ev P Φ Ψ c δ s).bnd fun z s => (settle z s).bnd fun z s =>
      match seqOf x, seqOf y, seqOf z with
    | some xs, some ys, some zs => if isTupD x || isTupD y || isTupD z || xs.length != ys.length || xs.length != zs.length then .stuck else .ok ((xs.zip (ys.zip zs)).map fun p => .tup [p.1, p.2.1, p.2.2]) s
    | _, _, _ => .stuck) := by simp only [evI] <;> rfl
@[simp] theorem exS_e0 : exS P Φ Ψ (.expr e) δ s = ((ev P Φ Ψ e δ s).bnd fun _ s => .ok (.nx, δ) s) := by simp only [exS] <;> rfl
@[simp] theorem exS_e1 : exS P Φ Ψ (.ret lv e) δ s = ((ev P Φ Ψ e δ s).bnd fun d s => (if lv then live d s else settle d s).bnd fun d s => .ok (.rt d, δ) s) := by simp only [exS] <;> rfl
@[simp] theorem exS_e2 : exS P Φ Ψ (.retN) δ s = (.ok (.rt .non, δ) s) := by simp only [exS] <;> rfl
@[simp] theorem exS_e3 : exS P Φ Ψ (.asg i lv e) δ s = ((ev P Φ Ψ e δ s).bnd fun d s => (if lv then live d s else .ok (raw d) s).bnd fun d s => .ok (.nx, δ.set i (some d)) s) := by simp only [exS] <;> rfl
@[simp] theorem exS_e4 : exS P Φ Ψ (.asgT is e) δ s = ((ev P Φ Ψ e δ s).bnd fun d s => (settle d s).bnd fun d s => (opt (bindT (.tup is) d δ) s).bnd fun δ s => .ok (.nx, δ) s) := by simp only [exS] <;> rfl
@[simp] theorem exS_e5 : exS P Φ Ψ (.par is es) δ s = ((parG P Φ Ψ is es δ s).bnd fun ps s => .ok (.nx, setAll ps δ) s) := by simp only [exS] <;> rfl
@[simp] theorem exS_e6 : exS P Φ Ψ (.setIx o i e) δ s = ((ev P Φ Ψ e δ s).bnd fun v s => (settle v s).bnd fun v s => (ev P Φ Ψ o δ s).bnd fun o s => (ev P Φ Ψ i δ s).bnd fun i s => (storeIx o i v s).bnd fun _ s => .ok (.nx, δ) s) := by simp only [exS] <;> rfl
@[simp] theorem exS_e7 : exS P Φ Ψ (.setFld o k e) δ s = ((ev P Φ Ψ e δ s).bnd fun v s => (settle v s).bnd fun v s => (ev P Φ Ψ o δ s).bnd fun o s => (storeFld P o k v s).bnd fun _ s => .ok (.nx, δ) s) := by simp only [exS] <;> rfl
@[simp] theorem exS_e8 : exS P Φ Ψ (.augN i op e) δ s = ((opt (δ.getD i none) s).bnd fun x s => (ev P Φ Ψ e δ s).bnd fun y s => (opt (match x, y with
      | .int _, .int _ => binop op x y
      | _, _ => none) s).bnd fun z s => .ok (.nx, δ.set i (some z)) s) := by simp only [exS] <;> rfl
@[simp] theorem exS_e9 : exS P Φ Ψ (.augIx o i op e) δ s = ((ev P Φ Ψ o δ s).bnd fun o s => (ev P Φ Ψ i δ s).bnd fun i s => if isLst s o then (opt (ixL (view s o) i) s).bnd fun x s => (ev P Φ Ψ e δ s).bnd fun y s => (opt (match x, y with
      | .int _, .int _ => binop op x y
      | _, _ => none) s).bnd fun z s => (storeIx o i z s).bnd fun _ s => .ok (.nx, δ) s else .stuck) := by simp only [exS] <;> rfl
@[simp] theorem exS_e10 : exS P Φ Ψ (.ifs c a b) δ s = ((evT P Φ Ψ c δ s).bnd fun k s => if k = true then exB P Φ Ψ a δ s else exB P Φ Ψ b δ s) := by simp only [exS] <;> rfl
@[simp] theorem exS_e11 : exS P Φ Ψ (.forS tg it b) δ s = ((evI P Φ Ψ it δ s).bnd fun xs s => loopF (fun x δ s => (opt (bindT tg x δ) s).bnd fun δ s => exB P Φ Ψ b δ s) xs δ s) := by simp only [exS] <;> rfl
@[simp] theorem exS_e12 : exS P Φ Ψ (.whil c b) δ s = (loopW (evT P Φ Ψ c) (exB P Φ Ψ b) 100000 δ s) := by simp only [exS] <;> rfl
@[simp] theorem exS_e13 : exS P Φ Ψ (.rais c as) δ s = ((evD P Φ Ψ as δ s).bnd fun ds s => match P.clss[c]? with
    | some q => if ds.length = q.flds.length then .err c (q.flds.zip ds).reverse s else .stuck
    | none => .stuck) := by simp only [exS] <;> rfl
@[simp] theorem exS_e14 : exS P Φ Ψ (.pass) δ s = (.ok (.nx, δ) s) := by simp only [exS] <;> rfl
@[simp] theorem exS_e15 : exS P Φ Ψ (.brk) δ s = (.ok (.bk, δ) s) := by simp only [exS] <;> rfl
@[simp] theorem exS_e16 : exS P Φ Ψ (.cnt) δ s = (.ok (.ct, δ) s) := by simp only [exS] <;> rfl
@[simp] theorem exB_e0 : exB P Φ Ψ ([]) δ s = (.ok (.nx, δ) s) := by simp only [exB] <;> rfl
@[simp] theorem exB_e1 : exB P Φ Ψ (c :: r) δ s = ((exS P Φ Ψ c δ s).bnd fun p s => match p.1 with
    | .nx => exB P Φ Ψ r p.2 s
    | f => .ok (f, p.2) s) := by simp only [exB] <;> rfl
@[simp] theorem parG_e0 : parG P Φ Ψ ([]) ([]) u1 s = (.ok [] s) := by simp only [parG] <;> rfl
@[simp] theorem parG_e1 : parG P Φ Ψ (i :: is) (e :: es) δ s = ((ev P Φ Ψ e δ s).bnd fun d s => (if i.2 then live d s else .ok (raw d) s).bnd fun d s => (parG P Φ Ψ is es δ s).bnd fun ps s => .ok ((i.1, d) :: ps) s) := by simp only [parG] <;> rfl
end
end ME

set_option linter.all false
set_option maxRecDepth 100000
set_option maxHeartbeats 2000000
namespace ME
open Z (Dat Cell St Env Res opt view raw settle live BOp COp big binop toPy toPys shapedO eqD isInts inD isStr isNonD cmpop truth ixD ixL cut slD BI LM PM CR Tgt HE IE IT It IS FunI ClsI Prog bindT wipeE tyIs isiD npOf plainC isiOk ownEq datC fldD belowC excQ hasFld evH evHs isBls isStrs isTupD seqOf maxI minI cmpD ltD encD isT1 isN0 okP okSort sortD sortZ biD bi2D rngOk rngD joinD pmD pmT isLst lmD fmtD keyD valD putD setIxD putK permD loopC Fl loopF loopW Fun setAll ev evT evs evD evF evO evI exS exB parG storeFld storeIx runF callF REx)
open PySem (Str PyData)
open Z.Res
/-- data that no store holds -/
def isC : Dat → Bool
  | .obj _ => false
  | .fl _ => false
  | .fd _ => false
  | _ => true
/-- the end of a run -/
def fin (r : REx) (s : St) : Res Dat := match r with
  | .ok (.nx, _) s' => .ok .non (s'.take s.length)
  | .ok (.rt d, _) s' => (match d with
    | .obj i => if i = s.length then .ok d (s'.take (s.length + 1)) else .stuck
    | d => .ok d (s'.take s.length))
  | .ok _ _ => .stuck
  | .err c fs s' => .err c fs (s'.take s.length)
  | .stuck => .stuck
@[simp] theorem fin_nx {δ : Env} {s s' : St} : fin (.ok (.nx, δ) s') s = .ok .non (s'.take s.length) := rfl
@[simp] theorem fin_err {c : Nat} {fs : List (Nat × Dat)} {s s' : St} : fin (.err c fs s') s = .err c fs (s'.take s.length) := rfl
theorem fin_rt {d : Dat} {δ : Env} {s s' : St} (h : isC d = true) : fin (.ok (.rt d, δ) s') s = .ok d (s'.take s.length) := by
  cases d <;> first | rfl | cases h
@[simp] theorem fin_non {δ : Env} {s s' : St} : fin (.ok (.rt .non, δ) s') s = .ok .non (s'.take s.length) := rfl
@[simp] theorem fin_bl {b : Bool} {δ : Env} {s s' : St} : fin (.ok (.rt (.bl b), δ) s') s = .ok (.bl b) (s'.take s.length) := rfl
@[simp] theorem fin_int {b : Int} {δ : Env} {s s' : St} : fin (.ok (.rt (.int b), δ) s') s = .ok (.int b) (s'.take s.length) := rfl
@[simp] theorem fin_str {b : Str} {δ : Env} {s s' : St} : fin (.ok (.rt (.str b), δ) s') s = .ok (.str b) (s'.take s.length) := rfl
@[simp] theorem fin_lst {b : List Dat} {δ : Env} {s s' : St} : fin (.ok (.rt (.lst b), δ) s') s = .ok (.lst b) (s'.take s.length) := rfl
@[simp] theorem fin_tup {b : List Dat} {δ : Env} {s s' : St} : fin (.ok (.rt (.tup b), δ) s') s = .ok (.tup b) (s'.take s.length) := rfl
@[simp] theorem fin_ins {c : Nat} {b : List (Nat × Dat)} {δ : Env} {s s' : St} : fin (.ok (.rt (.ins c b), δ) s') s = .ok (.ins c b) (s'.take s.length) := rfl
@[simp] theorem fin_obj {δ : Env} {s s' : St} : fin (.ok (.rt (.obj s.length), δ) s') s = .ok (.obj s.length) (s'.take (s.length + 1)) := by
  show (if _ then _ else _) = _
  rw [if_pos rfl]
theorem runF_eq {P : Prog} {Φ Ψ : Fun} {f : FunI} {args : List Dat} {s : St} (h : args.length = f.np) : runF P Φ Ψ f args s = fin (exB P Φ Ψ f.body (args.map some ++ List.replicate (f.N - f.np) none) s) s := by
  unfold runF fin
  exact if_pos h
theorem call_eq {P : Prog} {f : Nat} {q : FunI} {args : List Dat} {s : St} {n : Nat} (e : P.funs[f]? = some q) (h : args.length = q.np) (δ : Env) (hδ : args.map some ++ List.replicate (q.N - q.np) none = δ) :
    callF P (n + 2) f args s = fin (exB P (callF P (n + 1)) (callF P n) q.body δ s) s := by
  show (match P.funs[f]? with
    | some q => runF P (callF P (n + 1)) (callF P n) q args s
    | none => .stuck) = _
  rw [e, ← hδ]
  exact runF_eq h
theorem bnd_congr {α β : Type} {r r' : Res α} {f : α → St → Res β} (h : r = r') : r.bnd f = r'.bnd f := by rw [h]
theorem loopC_congr {f : Dat → St → Res (Option Dat)} {xs xs' : List Dat} {s s' : St} (h : xs = xs') (hs : s = s') : loopC f xs s = loopC f xs' s' := by rw [h, hs]
theorem loopF_congr {f : Dat → Env → St → REx} {xs xs' : List Dat} {δ δ' : Env} {s s' : St} (h : xs = xs') (hd : δ = δ') (hs : s = s') : loopF f xs δ s = loopF f xs' δ' s' := by rw [h, hd, hs]
theorem loopW_congr {c : Env → St → Res Bool} {f : Env → St → REx} {n n' : Nat} {δ δ' : Env} {s s' : St} (h : n = n') (hd : δ = δ') (hs : s = s') : loopW c f n δ s = loopW c f n' δ' s' := by rw [h, hd, hs]
theorem loopC_map {f : Dat → St → Res (Option Dat)} {g : Dat → Option Dat} {s : St} : ∀ {xs : List Dat}, (∀ x ∈ xs, f x s = .ok (g x) s) → loopC f xs s = .ok (xs.filterMap g) s
  | [], _ => rfl
  | x :: r, h => by
    unfold loopC
    rw [h x List.mem_cons_self, bnd_ok, loopC_map fun y m => h y (List.mem_cons_of_mem _ m), bnd_ok, List.filterMap_cons]
    cases g x <;> rfl
/-- a loop over the values of a list of something else -/
theorem loopC_of {α : Type} {e : α → Dat} {f : Dat → St → Res (Option Dat)} {g : α → Option Dat} {s : St} : ∀ {xs : List α}, (∀ x ∈ xs, f (e x) s = .ok (g x) s) → loopC f (xs.map e) s = .ok (xs.filterMap g) s
  | [], _ => rfl
  | x :: r, h => by
    rw [List.map_cons]
    unfold loopC
    rw [h x List.mem_cons_self, bnd_ok, loopC_of fun y m => h y (List.mem_cons_of_mem _ m), bnd_ok, List.filterMap_cons]
    cases g x <;> rfl
/-- .. each gives one value -/
theorem loopC_all {α : Type} {e : α → Dat} {f : Dat → St → Res (Option Dat)} {g : α → Dat} {s : St} {xs : List α} (h : ∀ x ∈ xs, f (e x) s = .ok (some (g x)) s) : loopC f (xs.map e) s = .ok (xs.map g) s := by
  rw [loopC_of (g := fun x => some (g x)) h, List.filterMap_eq_map']
/-- .. those that pass give one -/
theorem loopC_if {α : Type} {e : α → Dat} {f : Dat → St → Res (Option Dat)} {p : α → Bool} {g : α → Dat} {s : St} {xs : List α} (h : ∀ x ∈ xs, f (e x) s = .ok (if p x = true then some (g x) else none) s) : loopC f (xs.map e) s = .ok ((xs.filter p).map g) s := by
  rw [loopC_of h]
  congr 1
  clear h
  induction xs with
  | nil => rfl
  | cons x r ih =>
    rw [List.filterMap_cons, List.filter_cons]
    by_cases q : p x = true
    · rw [if_pos q, if_pos q, List.map_cons, ← ih]
    · rw [if_neg q, if_neg q, ih]
/-- a for loop without an early end -/
theorem loopF_inv {α : Type} {e : α → Dat} {f : Dat → Env → St → REx} (I : List α → Env → St → Prop) : ∀ {xs : List α} {δ : Env} {s : St}, (∀ x r δ s, I (x :: r) δ s → ∃ δ' s', f (e x) δ s = .ok (.nx, δ') s' ∧ I r δ' s') → I xs δ s →
    ∃ δ' s', loopF f (xs.map e) δ s = .ok (.nx, δ') s' ∧ I [] δ' s'
  | [], δ, s, _, h => ⟨δ, s, rfl, h⟩
  | x :: r, δ, s, H, h => by
    obtain ⟨δ1, s1, e1, h1⟩ := H x r δ s h
    obtain ⟨δ2, s2, e2, h2⟩ := loopF_inv I H h1
    refine ⟨δ2, s2, ?_, h2⟩
    rw [List.map_cons]
    unfold loopF
    rw [e1, bnd_ok]
    exact e2
theorem loopF_cons {f : Dat → Env → St → REx} {x : Dat} {r : List Dat} {δ : Env} {s : St} : loopF f (x :: r) δ s = (f x δ s).bnd fun p s => match p.1 with
    | .nx => loopF f r p.2 s
    | .ct => loopF f r p.2 s
    | .bk => .ok (.nx, p.2) s
    | .rt d => .ok (.rt d, p.2) s := (rfl)
theorem loopF_nil {f : Dat → Env → St → REx} {δ : Env} {s : St} : loopF f [] δ s = .ok (.nx, δ) s := (rfl)
theorem loop_at {α : Type} {e : α → Dat} {f : Dat → Env → St → REx} {xs : List α} {δ : Env} {s : St} (C : REx → Prop) (I : List α → Env → St → Prop) (h0 : I xs δ s) (hC : ∀ δ' s', I [] δ' s' → C (.ok (.nx, δ') s'))
    (H : ∀ x r δ s, I (x :: r) δ s → ∃ δ' s', f (e x) δ s = .ok (.nx, δ') s' ∧ I r δ' s') : C (loopF f (xs.map e) δ s) := by
  obtain ⟨δ', s', e1, h1⟩ := loopF_inv I H h0
  rw [e1]
  exact hC δ' s' h1
theorem loop_id {f : Dat → Env → St → REx} {xs : List Dat} {δ : Env} {s : St} (C : REx → Prop) (I : List Dat → Env → St → Prop) (h0 : I xs δ s) (hC : ∀ δ' s', I [] δ' s' → C (.ok (.nx, δ') s'))
    (H : ∀ x r δ s, I (x :: r) δ s → ∃ δ' s', f x δ s = .ok (.nx, δ') s' ∧ I r δ' s') : C (loopF f xs δ s) := by
  have := loop_at (e := id) (xs := xs) C I h0 hC H
  rwa [List.map_id] at this
theorem fin_loop {α : Type} {e : α → Dat} {f : Dat → Env → St → REx} {xs : List α} {δ : Env} {s s0 : St} {K : Fl × Env → St → REx} {R : Res Dat} (I : List α → Env → St → Prop) (h0 : I xs δ s) (hK : ∀ δ' s', I [] δ' s' → fin (K (.nx, δ') s') s0 = R)
    (H : ∀ x r δ s, I (x :: r) δ s → ∃ δ' s', f (e x) δ s = .ok (.nx, δ') s' ∧ I r δ' s') : fin ((loopF f (xs.map e) δ s).bnd K) s0 = R :=
  loop_at (fun r => fin (r.bnd K) s0 = R) I h0 (fun δ' s' h => hK δ' s' h) H
@[simp] theorem get_last {α : Type} {s : List α} {c : α} : (s ++ [c])[s.length]? = some c := by simp
@[simp] theorem set_last {α : Type} {s : List α} {c d : α} : (s ++ [c]).set s.length d = s ++ [d] := by simp
@[simp] theorem take_last {α : Type} {s : List α} {c : α} : (s ++ [c]).take (s.length + 1) = s ++ [c] := List.take_of_length_le (by simp)
theorem big_of {n : Nat} (h : n ≤ 16777216) : big n = true := Nat.ble_eq_true_of_le h
@[simp] theorem raw_non : raw (.non) = .non := rfl
@[simp] theorem view_non {s : St} : view s (.non) = .non := rfl
@[simp] theorem settle_non {s : St} : settle (.non) s = .ok (.non) s := rfl
@[simp] theorem live_non {s : St} : live (.non) s = .ok (.non) s := rfl
@[simp] theorem raw_bl {b : Bool} : raw (.bl b) = .bl b := rfl
@[simp] theorem view_bl {b : Bool} {s : St} : view s (.bl b) = .bl b := rfl
@[simp] theorem settle_bl {b : Bool} {s : St} : settle (.bl b) s = .ok (.bl b) s := rfl
@[simp] theorem live_bl {b : Bool} {s : St} : live (.bl b) s = .ok (.bl b) s := rfl
@[simp] theorem raw_int {i : Int} : raw (.int i) = .int i := rfl
@[simp] theorem view_int {i : Int} {s : St} : view s (.int i) = .int i := rfl
@[simp] theorem settle_int {i : Int} {s : St} : settle (.int i) s = .ok (.int i) s := rfl
@[simp] theorem live_int {i : Int} {s : St} : live (.int i) s = .ok (.int i) s := rfl
@[simp] theorem raw_str {x : Str} : raw (.str x) = .str x := rfl
@[simp] theorem view_str {x : Str} {s : St} : view s (.str x) = .str x := rfl
@[simp] theorem settle_str {x : Str} {s : St} : settle (.str x) s = .ok (.str x) s := rfl
@[simp] theorem live_str {x : Str} {s : St} : live (.str x) s = .ok (.str x) s := rfl
@[simp] theorem raw_lst {xs : List Dat} : raw (.lst xs) = .lst xs := rfl
@[simp] theorem view_lst {xs : List Dat} {s : St} : view s (.lst xs) = .lst xs := rfl
@[simp] theorem settle_lst {xs : List Dat} {s : St} : settle (.lst xs) s = .ok (.lst xs) s := rfl
@[simp] theorem live_lst {xs : List Dat} {s : St} : live (.lst xs) s = .ok (.lst xs) s := rfl
@[simp] theorem raw_tup {xs : List Dat} : raw (.tup xs) = .tup xs := rfl
@[simp] theorem view_tup {xs : List Dat} {s : St} : view s (.tup xs) = .tup xs := rfl
@[simp] theorem settle_tup {xs : List Dat} {s : St} : settle (.tup xs) s = .ok (.tup xs) s := rfl
@[simp] theorem live_tup {xs : List Dat} {s : St} : live (.tup xs) s = .ok (.tup xs) s := rfl
@[simp] theorem raw_rol {ns : List Int} : raw (.rol ns) = .rol ns := rfl
@[simp] theorem view_rol {ns : List Int} {s : St} : view s (.rol ns) = .rol ns := rfl
@[simp] theorem settle_rol {ns : List Int} {s : St} : settle (.rol ns) s = .ok (.rol ns) s := rfl
@[simp] theorem live_rol {ns : List Int} {s : St} : live (.rol ns) s = .ok (.rol ns) s := rfl
@[simp] theorem raw_dic {kvs : List (L2.Key × Dat)} : raw (.dic kvs) = .dic kvs := rfl
@[simp] theorem view_dic {kvs : List (L2.Key × Dat)} {s : St} : view s (.dic kvs) = .dic kvs := rfl
@[simp] theorem settle_dic {kvs : List (L2.Key × Dat)} {s : St} : settle (.dic kvs) s = .ok (.dic kvs) s := rfl
@[simp] theorem live_dic {kvs : List (L2.Key × Dat)} {s : St} : live (.dic kvs) s = .ok (.dic kvs) s := rfl
@[simp] theorem raw_ins {c : Nat} {fs : List (Nat × Dat)} : raw (.ins c fs) = .ins c fs := rfl
@[simp] theorem view_ins {c : Nat} {fs : List (Nat × Dat)} {s : St} : view s (.ins c fs) = .ins c fs := rfl
@[simp] theorem settle_ins {c : Nat} {fs : List (Nat × Dat)} {s : St} : settle (.ins c fs) s = .ok (.ins c fs) s := rfl
@[simp] theorem live_ins {c : Nat} {fs : List (Nat × Dat)} {s : St} : live (.ins c fs) s = .ok (.ins c fs) s := rfl
@[simp] theorem raw_obj {i : Nat} : raw (.obj i) = .obj i := rfl
@[simp] theorem raw_fl {xs : List Dat} : raw (.fl xs) = .lst xs := rfl
@[simp] theorem raw_fd {xs : List (L2.Key × Dat)} : raw (.fd xs) = .dic xs := rfl
@[simp] theorem settle_fl {xs : List Dat} {s : St} : settle (.fl xs) s = .ok (.lst xs) s := rfl
@[simp] theorem settle_fd {xs : List (L2.Key × Dat)} {s : St} : settle (.fd xs) s = .ok (.dic xs) s := rfl
@[simp] theorem live_fl {xs : List Dat} {s : St} : live (.fl xs) s = .ok (.obj s.length) (s ++ [.lst xs]) := rfl
@[simp] theorem live_fd {xs : List (L2.Key × Dat)} {s : St} : live (.fd xs) s = .ok (.obj s.length) (s ++ [.dic xs]) := rfl
@[simp] theorem live_obj {i : Nat} {s : St} : live (.obj i) s = .ok (.obj i) s := rfl
theorem raw_c {d : Dat} (h : isC d = true) : raw d = d := by cases d <;> first | rfl | cases h
theorem view_c {d : Dat} {s : St} (h : isC d = true) : view s d = d := by cases d <;> first | rfl | cases h
theorem settle_c {d : Dat} {s : St} (h : isC d = true) : settle d s = .ok d s := by cases d <;> first | rfl | cases h
/-- what a cell shows -/
def cellV : Cell → Dat
  | .lst xs => .lst xs
  | .ins k fs => .ins k fs
  | .dic kvs => .dic kvs
  | .froz d => d
@[simp] theorem cellV_lst {xs : List Dat} : cellV (.lst xs) = .lst xs := rfl
@[simp] theorem cellV_ins {k : Nat} {xs : List (Nat × Dat)} : cellV (.ins k xs) = .ins k xs := rfl
@[simp] theorem cellV_dic {xs : List (L2.Key × Dat)} : cellV (.dic xs) = .dic xs := rfl
@[simp] theorem cellV_froz {d : Dat} : cellV (.froz d) = d := rfl
theorem view_obj {i : Nat} {s : St} {c : Cell} (h : s[i]? = some c) : view s (.obj i) = cellV c := by
  show (match s[i]? with
    | some (.lst xs) => Dat.lst xs
    | some (.ins c fs) => Dat.ins c fs
    | some (.dic kvs) => Dat.dic kvs
    | some (.froz d) => d
    | none => Dat.obj i) = _
  rw [h]
  cases c <;> rfl
@[simp] theorem view_obj0 {c : Cell} {t : St} : view (c :: t) (.obj 0) = cellV c := view_obj rfl
@[simp] theorem view_objL {c : Cell} {s : St} : view (s ++ [c]) (.obj s.length) = cellV c := view_obj get_last
theorem settle_obj {i : Nat} {s : St} {c : Cell} (h : s[i]? = some c) (hc : ∀ d, c ≠ .froz d) : settle (.obj i) s = .ok (cellV c) (s.set i (.froz (cellV c))) := by
  show (match s[i]? with
    | some (.lst xs) => Res.ok (Dat.lst xs) (s.set i (.froz (.lst xs)))
    | some (.ins c fs) => Res.ok (Dat.ins c fs) (s.set i (.froz (.ins c fs)))
    | some (.dic kvs) => Res.ok (Dat.dic kvs) (s.set i (.froz (.dic kvs)))
    | some (.froz d) => Res.ok d s
    | none => Res.stuck) = _
  rw [h]
  cases c <;> first | rfl | exact absurd rfl (hc _)
@[simp] theorem settle_lstL {xs : List Dat} {s : St} : settle (.obj s.length) (s ++ [.lst xs]) = .ok (.lst xs) (s ++ [.froz (.lst xs)]) := by
  rw [settle_obj get_last (fun _ h => by cases h), set_last]; rfl
@[simp] theorem settle_insL {k : Nat} {xs : List (Nat × Dat)} {s : St} : settle (.obj s.length) (s ++ [.ins k xs]) = .ok (.ins k xs) (s ++ [.froz (.ins k xs)]) := by
  rw [settle_obj get_last (fun _ h => by cases h), set_last]; rfl
@[simp] theorem settle_dicL {xs : List (L2.Key × Dat)} {s : St} : settle (.obj s.length) (s ++ [.dic xs]) = .ok (.dic xs) (s ++ [.froz (.dic xs)]) := by
  rw [settle_obj get_last (fun _ h => by cases h), set_last]; rfl
@[simp] theorem seqOf_lst {xs : List Dat} : seqOf (.lst xs) = some xs := rfl
@[simp] theorem seqOf_tup {xs : List Dat} : seqOf (.tup xs) = some xs := rfl
@[simp] theorem seqOf_rol {xs : List Int} : seqOf (.rol xs) = some (xs.map .int) := rfl
@[simp] theorem bindT_name {i : Nat} {x : Dat} {δ : Env} : bindT (.name i) x δ = some (δ.set i (some x)) := rfl
@[simp] theorem bindT_two {i j : Nat} {x y : Dat} {δ : Env} : bindT (.tup [i, j]) (.tup [x, y]) δ = some ((δ.set i (some x)).set j (some y)) := rfl
@[simp] theorem wipeE_nil {δ : Env} : wipeE δ [] = δ := rfl
@[simp] theorem wipeE_cons {δ : Env} {v : Nat} {vs : List Nat} : wipeE δ (v :: vs) = (wipeE δ vs).set v none := rfl
@[simp] theorem permD_nil {ds : List Dat} : permD [] ds = some [] := rfl
@[simp] theorem permD_inl {k : Nat} {r : List (Sum Nat Dat)} {ds : List Dat} : permD (.inl k :: r) ds = (match ds[k]?, permD r ds with
    | some d, some q => some (d :: q)
    | _, _ => none) := rfl
@[simp] theorem truth_bl {b : Bool} : truth (.bl b) = some b := rfl
@[simp] theorem truth_non : truth .non = some false := rfl
@[simp] theorem truth_int {i : Int} : truth (.int i) = some (i != 0) := rfl
@[simp] theorem isLst0 {xs : List Dat} {t : St} : isLst (.lst xs :: t) (.obj 0) = true := rfl
@[simp] theorem isLstL {xs : List Dat} {s : St} : isLst (s ++ [.lst xs]) (.obj s.length) = true := by
  show (match (s ++ [Cell.lst xs])[s.length]? with
      | some (.lst _) => true
      | _ => false) = true
  rw [get_last]
@[simp] theorem isNonD_non : isNonD .non = true := rfl
abbrev nI (k : Nat) : Dat := .int (k : Int)
abbrev tupN (l : List Nat) : Dat := .tup (l.map nI)
abbrev lstN (l : List Nat) : Dat := .lst (l.map nI)
theorem isInts_map {α : Type} {f : α → Int} : ∀ {l : List α}, isInts (l.map fun x => .int (f x)) = some (l.map f)
  | [] => rfl
  | x :: r => by
    show (isInts (r.map fun x => .int (f x))).map _ = _
    rw [isInts_map]
    rfl
theorem isBls_map {α : Type} {f : α → Bool} : ∀ {l : List α}, isBls (l.map fun x => .bl (f x)) = some (l.map f)
  | [] => rfl
  | x :: r => by
    show (isBls (r.map fun x => .bl (f x))).map _ = _
    rw [isBls_map]
    rfl
@[simp] theorem cp_lt {i j : Int} : cmpop .lt (.int i) (.int j) = some (decide (i < j)) := rfl
@[simp] theorem cp_le {i j : Int} : cmpop .le (.int i) (.int j) = some (decide (i ≤ j)) := rfl
@[simp] theorem cp_gt {i j : Int} : cmpop .gt (.int i) (.int j) = some (decide (j < i)) := rfl
@[simp] theorem cp_ge {i j : Int} : cmpop .ge (.int i) (.int j) = some (decide (j ≤ i)) := rfl
@[simp] theorem cp_eq {a b : Dat} : cmpop .eq a b = eqD a b := by cases a <;> cases b <;> rfl
@[simp] theorem cp_ne {a b : Dat} : cmpop .ne a b = (eqD a b).map (!·) := by cases a <;> cases b <;> rfl
@[simp] theorem cp_in {a b : Dat} : cmpop .in_ a b = inD a b := by cases a <;> cases b <;> rfl
@[simp] theorem cp_nin {a b : Dat} : cmpop .nin a b = (inD a b).map (!·) := by cases a <;> cases b <;> rfl
@[simp] theorem cp_is {a : Dat} : cmpop .is_ a .non = some (isNonD a) := by cases a <;> rfl
@[simp] theorem cp_isnt {a : Dat} : cmpop .isnt a .non = some (!isNonD a) := by cases a <;> rfl
@[simp] theorem ownEq_int {P : Prog} {op : COp} {i : Int} {e : Dat} : ownEq P op (.int i) e = none := rfl
@[simp] theorem ownEq_str {P : Prog} {op : COp} {i : Str} {e : Dat} : ownEq P op (.str i) e = none := rfl
@[simp] theorem ownEq_bl {P : Prog} {op : COp} {i : Bool} {e : Dat} : ownEq P op (.bl i) e = none := rfl
@[simp] theorem ownEq_lst {P : Prog} {op : COp} {i : List Dat} {e : Dat} : ownEq P op (.lst i) e = none := rfl
@[simp] theorem ownEq_tup {P : Prog} {op : COp} {i : List Dat} {e : Dat} : ownEq P op (.tup i) e = none := rfl
@[simp] theorem ownEq_non {P : Prog} {op : COp} {e : Dat} : ownEq P op .non e = none := rfl
@[simp] theorem bo_add {i j : Int} : binop .add (.int i) (.int j) = some (.int (i + j)) := rfl
@[simp] theorem bo_sub {i j : Int} : binop .sub (.int i) (.int j) = some (.int (i - j)) := rfl
@[simp] theorem bo_and {i j : Int} : binop .band (.int i) (.int j) = some (.int (PySem.Builtin.bitAnd i j)) := rfl
@[simp] theorem bo_or {i j : Int} : binop .bor (.int i) (.int j) = some (.int (PySem.Builtin.bitOr i j)) := rfl
open PyProof.Rows in
theorem eqD_of {a b : Dat} {p q : PyData} (ha : toPy a = some p) (hb : toPy b = some q) (sa : PySem.SeqAt.shaped p = true) (sb : PySem.SeqAt.shaped q = true) : eqD a b = some (PyData.eqv p q) := by
  unfold eqD
  rw [ha, hb]
  simp only [shapedO, sa, sb, if_true]
theorem mkD_eq {P : Prog} {Ψ : Fun} {c f : Nat} {q : ClsI} {vs : List Dat} {s : St} (hc : P.clss[c]? = some q) (hi : q.init = some f) (hl : q.lv = false) : mkD P Ψ c vs s = (Ψ f (.obj s.length :: vs) (s ++ [.ins c []])).bnd fun r s' => if isNonD r = true then (settle (.obj s.length) s').bnd fun d s' => .ok d (s'.take s.length) else .stuck := by
  unfold mkD
  simp only [hc, hi, hl]
  rfl
end ME

set_option linter.all false
set_option maxRecDepth 100000
set_option maxHeartbeats 2000000
namespace ME
open Z (Dat Cell St Env Res opt view raw settle live BOp COp big binop toPy toPys shapedO eqD isInts inD isStr isNonD cmpop truth ixD ixL cut slD BI LM PM CR Tgt HE IE IT It IS FunI ClsI Prog bindT wipeE tyIs isiD npOf plainC isiOk ownEq datC fldD belowC excQ hasFld evH evHs isBls isStrs isTupD seqOf maxI minI cmpD ltD encD isT1 isN0 okP okSort sortD sortZ biD bi2D rngOk rngD joinD pmD pmT isLst lmD fmtD keyD valD putD setIxD putK permD loopC Fl loopF loopW Fun setAll ev evT evs evD evF evO evI exS exB parG storeFld storeIx runF callF REx)
open PySem (Str PyData)
open Z.Res
def bits (m : Nat) : List Nat := (List.range 6).filter fun i => m.testBit i
abbrev lotD (m : Nat) : Dat := tupN (bits m)
abbrev keyM (m : Nat) : Dat := .tup [nI (bits m).length, lotD m]
def ordL : List Nat := [0, 1, 2, 4, 8, 16, 32, 3, 5, 9, 17, 33, 6, 10, 18, 34, 12, 20, 36, 24, 40, 48, 7, 11, 19, 35, 13, 21, 37, 25, 41, 49, 14, 22, 38, 26, 42, 50, 28, 44, 52, 56, 15, 23, 39, 27, 43, 51, 29, 45, 53, 57, 30, 46, 54, 58, 60, 31, 47, 55, 59, 61, 62, 63]
def rkL : List Nat := [0, 1, 2, 7, 3, 8, 12, 22, 4, 9, 13, 23, 16, 26, 32, 42, 5, 10, 14, 24, 17, 27, 33, 43, 19, 29, 35, 45, 38, 48, 52, 57, 6, 11, 15, 25, 18, 28, 34, 44, 20, 30, 36, 46, 39, 49, 53, 58, 21, 31, 37, 47, 40, 50, 54, 59, 41, 51, 55, 60, 56, 61, 62, 63]
def rk (m : Nat) : Nat := rkL.getD m 64
/-- the lots of a list, in order -/
def srt (l : List Nat) : List Nat := ordL.filter fun m => decide (m ∈ l)
theorem all64 {p : Nat → Bool} (h : (List.range 64).all p = true) {a : Nat} (ha : a < 64) : p a = true := List.all_eq_true.mp h a (List.mem_range.mpr ha)
theorem all64b {p : Nat → Nat → Bool} (h : ((List.range 64).all fun a => (List.range 64).all (p a)) = true) {a b : Nat} (ha : a < 64) (hb : b < 64) : p a b = true := all64 (all64 h ha) hb
theorem ordL_nodup : ordL.Nodup := by decide +kernel
theorem ordL_mem {m : Nat} : m ∈ ordL ↔ m < 64 := by
  constructor
  · intro h
    have : ordL.all (fun m => decide (m < 64)) = true := by decide +kernel
    exact of_decide_eq_true (List.all_eq_true.mp this m h)
  · intro h
    exact of_decide_eq_true (all64 (p := fun m => decide (m ∈ ordL)) (by decide +kernel) h)
theorem ordL_pw : ordL.Pairwise fun a b => rk a ≤ rk b := by decide +kernel
theorem rk_inj {a b : Nat} (ha : a < 64) (hb : b < 64) (h : rk a = rk b) : a = b := by
  have := all64b (p := fun a b => !decide (rk a = rk b) || decide (a = b)) (by decide +kernel) ha hb
  simpa [h] using this
theorem key_le {a b : Nat} (ha : a < 64) (hb : b < 64) : PySem.W.dataLe false encD (keyM a) (keyM b) = decide (rk a ≤ rk b) := by
  have := all64b (p := fun a b => PySem.W.dataLe false encD (keyM a) (keyM b) == decide (rk a ≤ rk b)) (by decide +kernel) ha hb
  simpa using this
theorem key_alike {a b : Nat} (ha : a < 64) (hb : b < 64) : PySem.W.alike (encD (keyM a)) (encD (keyM b)) = true :=
  all64b (p := fun a b => PySem.W.alike (encD (keyM a)) (encD (keyM b))) (by decide +kernel) ha hb
theorem key_py {a : Nat} (ha : a < 64) : ((toPy (keyM a)).isSome && (isT1 (encD (keyM a)) && decide ((encD (keyM a)).depth ≤ 8))) = true :=
  all64 (p := fun a => (toPy (keyM a)).isSome && (isT1 (encD (keyM a)) && decide ((encD (keyM a)).depth ≤ 8))) (by decide +kernel) ha
theorem srt_perm {l : List Nat} (nd : l.Nodup) (h : ∀ m ∈ l, m < 64) : (srt l).Perm l := by
  refine (List.perm_ext_iff_of_nodup (ordL_nodup.filter _) nd).mpr fun a => ?_
  show a ∈ ordL.filter (fun m => decide (m ∈ l)) ↔ a ∈ l
  rw [List.mem_filter, decide_eq_true_eq, ordL_mem]
  exact ⟨fun z => z.2, fun z => ⟨h a z, z⟩⟩
theorem srt_pw {l : List Nat} : (srt l).Pairwise fun a b => rk a ≤ rk b := ordL_pw.filter _
theorem srt_sort {l : List Nat} (nd : l.Nodup) (h : ∀ m ∈ l, m < 64) : (l.mergeSort fun a b => decide (rk a ≤ rk b)) = srt l := by
  have p1 := List.mergeSort_perm l fun a b => decide (rk a ≤ rk b)
  have p2 := srt_perm nd h
  refine (p1.trans p2.symm).eq_of_pairwise (le := fun a b => rk a ≤ rk b) (fun a b ha hb h1 h2 => ?_) ?_ srt_pw
  · exact rk_inj (h a (p1.mem_iff.mp ha)) (h b (p2.mem_iff.mp hb)) (Nat.le_antisymm h1 h2)
  · have := List.pairwise_mergeSort (le := fun a b => decide (rk a ≤ rk b)) (fun a b c h1 h2 => by simp only [decide_eq_true_eq] at *; omega) (fun a b => by simp only [Bool.or_eq_true, decide_eq_true_eq]; omega) l
    exact this.imp fun h => of_decide_eq_true h
theorem okSort_keys {l : List Nat} (h : ∀ m ∈ l, m < 64) : okSort (l.map keyM) = true := by
  unfold okSort okP
  simp only [Bool.and_eq_true, List.all_eq_true, List.mem_map, Bool.or_eq_true, forall_exists_index, and_imp, forall_apply_eq_imp_iff₂]
  refine ⟨fun m hm => ?_, ⟨fun m hm k hk => key_alike (h m hm) (h k hk), .inl fun m hm => ?_⟩, fun m hm => ?_⟩
  · have := key_py (h m hm); simp only [Bool.and_eq_true] at this; exact this.1
  · have := key_py (h m hm); simp only [Bool.and_eq_true] at this; exact this.2.1
  · have := key_py (h m hm); simp only [Bool.and_eq_true] at this; exact this.2.2
theorem sortD_keys {l : List Nat} (nd : l.Nodup) (h : ∀ m ∈ l, m < 64) : sortD (l.map keyM) = (srt l).map keyM := by
  unfold sortD
  rw [← srt_sort nd h, List.map_mergeSort (s := PySem.W.dataLe false encD) fun a ha b hb => (key_le (h a ha) (h b hb)).symm]
theorem sortZ_keys {l : List Nat} (nd : l.Nodup) (h : ∀ m ∈ l, m < 64) : sortZ ((l.map keyM).zip (l.map lotD)) = (srt l).map lotD := by
  unfold sortZ
  have e : (l.map keyM).zip (l.map lotD) = l.map fun m => (keyM m, lotD m) := by
    rw [List.zip_map']
  rw [e, ← List.map_mergeSort (r := fun a b => decide (rk a ≤ rk b)) (f := fun m => (keyM m, lotD m)) fun a ha b hb => (key_le (h a ha) (h b hb)).symm, srt_sort nd h, List.map_map]
  rfl
end ME

set_option linter.all false
set_option maxRecDepth 100000
set_option maxHeartbeats 2000000
namespace ME
open Z (Dat Cell St Env Res opt view raw settle live BOp COp big binop toPy toPys shapedO eqD isInts inD isStr isNonD cmpop truth ixD ixL cut slD BI LM PM CR Tgt HE IE IT It IS FunI ClsI Prog bindT wipeE tyIs isiD npOf plainC isiOk ownEq datC fldD belowC excQ hasFld evH evHs isBls isStrs isTupD seqOf maxI minI cmpD ltD encD isT1 isN0 okP okSort sortD sortZ biD bi2D rngOk rngD joinD pmD pmT isLst lmD fmtD keyD valD putD setIxD putK permD loopC Fl loopF loopW Fun setAll ev evT evs evD evF evO evI exS exB parG storeFld storeIx runF callF REx)
open PySem (Str PyData)
open Z.Res
@[simp] theorem eqD_int {i j : Int} : eqD (.int i) (.int j) = some (decide (i = j)) := rfl
@[simp] theorem eqD_bl {i j : Bool} : eqD (.bl i) (.bl j) = some (i == j) := rfl
@[simp] theorem bo_shr {i : Int} {j : Nat} : binop .shr (.int i) (.int (j : Int)) = some (.int (i / 2 ^ j)) := by
  show (if decide (0 ≤ (j : Int)) then some (Dat.int (i / 2 ^ (j : Int).toNat)) else none) = _
  rw [if_pos (by simp)]; rfl
theorem bo_shl {j : Nat} (h : j ≤ 1000000) : binop .shl (.int 1) (.int (j : Int)) = some (.int (2 ^ j)) := by
  show (if decide (0 ≤ (j : Int) ∧ (j : Int) ≤ 1000000 ∧ (1 : Int).natAbs < 2 ^ 64) then some (Dat.int (1 * 2 ^ (j : Int).toNat)) else none) = _
  rw [if_pos (by simp; omega), Int.one_mul]
  rfl
theorem tb1 {m i : Nat} (hm : m < 64) (hi : i < 6) : PySem.Builtin.bitAnd ((m : Int) / 2 ^ i) 1 = 1 ↔ m.testBit i = true := by
  have := all64b (p := fun m i => !decide (i < 6) || (decide (PySem.Builtin.bitAnd ((m : Int) / 2 ^ i) 1 = 1) == m.testBit i)) (by decide +kernel) hm (show i < 64 by omega)
  simp only [hi, decide_true, Bool.not_true, Bool.false_or, beq_iff_eq] at this
  rw [← this, decide_eq_true_eq]
theorem tb0 {m i : Nat} (hm : m < 64) (hi : i < 6) : PySem.Builtin.bitAnd ((m : Int) / 2 ^ i) 1 = 0 ↔ m.testBit i = false := by
  have := all64b (p := fun m i => !decide (i < 6) || (decide (PySem.Builtin.bitAnd ((m : Int) / 2 ^ i) 1 = 0) == !m.testBit i)) (by decide +kernel) hm (show i < 64 by omega)
  simp only [hi, decide_true, Bool.not_true, Bool.false_or, beq_iff_eq] at this
  rw [← decide_eq_true_eq (p := _ = (0 : Int)), this]
  simp
theorem or64 {m i : Nat} (hm : m < 64) (hi : i < 6) : PySem.Builtin.bitOr (m : Int) (2 ^ i) = ((m ||| 2 ^ i : Nat) : Int) := by
  have := all64b (p := fun m i => !decide (i < 6) || decide (PySem.Builtin.bitOr (m : Int) (2 ^ i) = ((m ||| 2 ^ i : Nat) : Int))) (by decide +kernel) hm (show i < 64 by omega)
  simpa [hi] using this
/-- a lot lies in another one -/
def sub (a b : Nat) : Bool := a &&& b == a
theorem sub64 {m o : Nat} (hm : m < 64) (ho : o < 64) : decide (PySem.Builtin.bitAnd (m : Int) (PySem.Builtin.bitNot (o : Int)) = 0) = sub m o := by
  have := all64b (p := fun m o => decide (PySem.Builtin.bitAnd (m : Int) (PySem.Builtin.bitNot (o : Int)) = 0) == sub m o) (by decide +kernel) hm ho
  simpa only [beq_iff_eq] using this
theorem or_lt {m i n : Nat} (hm : m < 2 ^ n) (hi : i < n) : m ||| 2 ^ i < 2 ^ n := Nat.or_lt_two_pow hm (Nat.pow_lt_pow_right (by omega) hi)
theorem rngD_nat {n : Nat} : rngD 0 (n : Int) = (List.range n).map nI := by
  unfold rngD
  simp
theorem rngOk_nat {n : Nat} (h : n ≤ 1000000) : rngOk (n : Int) = true := by
  unfold rngOk
  simp; omega
theorem big_nat {n : Nat} (h : n ≤ 1000000) : big n = true := big_of (by omega)
theorem bits_sum {m : Nat} (hm : m < 64) : ((bits m).map fun i => (2 : Int) ^ i).sum = (m : Int) := by
  have := all64 (p := fun m => decide (((bits m).map fun i => (2 : Int) ^ i).sum = (m : Int))) (by decide +kernel) hm
  simpa using this
theorem bits_len {m : Nat} : (bits m).length ≤ 6 := by
  unfold bits
  exact Nat.le_trans (List.length_filter_le _ _) (by simp)
theorem bits_lt {m i : Nat} (h : i ∈ bits m) : i < 6 := by
  unfold bits at h
  exact List.mem_range.mp (List.mem_filter.mp h).1
theorem bits_mem {m i : Nat} : i ∈ bits m ↔ i < 6 ∧ m.testBit i = true := by
  unfold bits
  rw [List.mem_filter, List.mem_range]
@[simp] theorem rngD_zero {j : Int} : rngD 0 j = (List.range j.toNat).map nI := by
  unfold rngD
  simp
theorem bi_sum {α : Type} {f : α → Int} {l : List α} : biD .sum (.lst (l.map fun x => Dat.int (f x))) = some (.int (l.map f).sum) := by
  show (isInts _).map _ = _
  rw [isInts_map]; rfl
theorem bi_any {α : Type} {f : α → Bool} {l : List α} : biD .any (.lst (l.map fun x => Dat.bl (f x))) = some (.bl (l.any f)) := by
  show (isBls _).map _ = _
  rw [isBls_map]; simp
theorem bi_all {α : Type} {f : α → Bool} {l : List α} : biD .all (.lst (l.map fun x => Dat.bl (f x))) = some (.bl (l.all f)) := by
  show (isBls _).map _ = _
  rw [isBls_map]; simp
@[simp] theorem bi_len_lst {xs : List Dat} : biD .len (.lst xs) = some (.int xs.length) := rfl
@[simp] theorem bi_len_tup {xs : List Dat} : biD .len (.tup xs) = some (.int xs.length) := rfl
@[simp] theorem bi_tuple_lst {xs : List Dat} : biD .tuple (.lst xs) = some (.tup xs) := rfl
@[simp] theorem bi_tuple_tup {xs : List Dat} : biD .tuple (.tup xs) = some (.tup xs) := rfl
@[simp] theorem bi_list_lst {xs : List Dat} : biD .list (.lst xs) = some (.fl xs) := rfl
@[simp] theorem bi_list_tup {xs : List Dat} : biD .list (.tup xs) = some (.fl xs) := rfl
@[simp] theorem bi_int {i : Int} : biD .int (.int i) = some (.int i) := rfl
theorem rngOk6 : rngOk 6 = true := rfl
theorem big6 : big 6 = true := rfl
theorem rngOk_pow {k : Nat} (h : k ≤ 6) : rngOk (2 ^ k) = true := by
  have : (List.range 7).all (fun k => rngOk (2 ^ k)) = true := by decide +kernel
  exact List.all_eq_true.mp this k (List.mem_range.mpr (by omega))
theorem toNat_pow {k : Nat} : ((2 : Int) ^ k).toNat = 2 ^ k := by
  have : ((2 : Int) ^ k) = ((2 ^ k : Nat) : Int) := by simp
  rw [this, Int.toNat_natCast]
theorem pow_le {k : Nat} (h : k ≤ 6) : (2 : Nat) ^ k ≤ 64 := Nat.pow_le_pow_right (by omega) h
theorem enum_range {f : Nat → Dat} {N : Nat} : (((List.range N).map f).zipIdx.map fun p => Dat.tup [.int (p.2 : Int), p.1]) = (List.range N).map fun m => Dat.tup [nI m, f m] := by
  apply List.ext_getElem?
  intro i
  simp only [List.getElem?_map, List.getElem?_zipIdx, List.getElem?_range, Nat.zero_add]
  by_cases h : i < N
  · simp [List.getElem?_range h]
  · simp [List.getElem?_eq_none (l := List.range N) (i := i) (by simp; omega)]
theorem atI_nat {xs : List Dat} {i : Nat} {d : Dat} (h : xs[i]? = some d) : L2.atI xs (i : Int) = some d := by
  have hi := (List.getElem?_eq_some_iff.mp h).1
  unfold L2.atI L2.ixN
  rw [if_pos (by omega), if_pos (by omega)]
  simpa using h
theorem atI_back {xs : List Dat} {i j : Nat} {d : Dat} (e : i + j + 1 = xs.length) (h : xs[i]? = some d) : L2.atI xs (-1 - (j : Int)) = some d := by
  unfold L2.atI L2.ixN
  rw [if_neg (by omega), if_pos (by omega)]
  have : (-1 - (j : Int) + (xs.length : Int)).toNat = i := by omega
  simp [this, h]
theorem ix_tab {f : Nat → Dat} {N m : Nat} (h : m < N) : ixD (.lst ((List.range N).map f)) (nI m) = some (f m) := atI_nat (by simp [List.getElem?_range h])
theorem ix_tabB {f : Nat → Dat} {N m : Nat} (h : m < N) : ixD (.lst ((List.range N).map f)) (.int (-1 - (m : Int))) = some (f (N - 1 - m)) := atI_back (i := N - 1 - m) (by simp; omega) (by simp [List.getElem?_range (show N - 1 - m < N by omega)])
@[simp] theorem big_0 : big 0 = true := by decide
@[simp] theorem big_1 : big 1 = true := by decide
@[simp] theorem big_2 : big 2 = true := by decide
@[simp] theorem big_3 : big 3 = true := by decide
@[simp] theorem big_4 : big 4 = true := by decide
@[simp] theorem big_5 : big 5 = true := by decide
@[simp] theorem big_6 : big 6 = true := by decide
@[simp] theorem big_7 : big 7 = true := by decide
@[simp] theorem big_8 : big 8 = true := by decide
@[simp] theorem big_9 : big 9 = true := by decide
@[simp] theorem rngOk_6 : rngOk 6 = true := by decide
@[simp] theorem lmD_append {xs : List Dat} {y : Dat} (h : xs.length < 16777216) : lmD .append xs [y] = some (xs ++ [y], .non) := by
  show (if Nat.blt xs.length Z.BIG then some (xs ++ [y], Dat.non) else none) = _
  rw [if_pos (show Nat.blt xs.length Z.BIG = true from Nat.ble_eq_true_of_le h)]
theorem pow_lt_iff {i k : Nat} (hi : i ≤ 6) (hk : k ≤ 6) : (2 : Int) ^ i < 2 ^ k ↔ i < k := by
  have : (List.range 7).all (fun i => (List.range 7).all fun k => decide ((2 : Int) ^ i < 2 ^ k) == decide (i < k)) = true := by decide +kernel
  have := List.all_eq_true.mp (List.all_eq_true.mp this i (List.mem_range.mpr (by omega))) k (List.mem_range.mpr (by omega))
  simpa using this
/-- a list or a tuple -/
def sqD : Bool → List Dat → Dat
  | true, xs => .tup xs
  | false, xs => .lst xs
theorem toPys_nat {l : List Nat} : toPys (l.map nI) = some (l.map fun (x : Nat) => PyData.int (x : Int)) := by
  induction l with
  | nil => rfl
  | cons x r ih =>
    show (match toPy (nI x), toPys (r.map nI) with
      | some p, some ps => some (p :: ps)
      | _, _ => none) = _
    rw [ih]
    rfl
theorem okSort_nat {l : List Nat} : okSort (l.map nI) = true := by
  unfold okSort okP
  have e : (l.map nI).map encD = l.map fun (x : Nat) => PyData.int (x : Int) := by
    rw [List.map_map]
    rfl
  rw [e]
  simp only [Bool.and_eq_true, List.all_eq_true, List.mem_map, Bool.or_eq_true, forall_exists_index, and_imp, forall_apply_eq_imp_iff₂]
  refine ⟨fun m hm => rfl, ⟨fun m hm k hk => rfl, .inr fun m hm => rfl⟩, fun m hm => rfl⟩
theorem nat_le {a b : Nat} (ha : a < 64) (hb : b < 64) : PySem.W.dataLe false encD (nI a) (nI b) = decide (a ≤ b) := by
  have := all64b (p := fun a b => PySem.W.dataLe false encD (nI a) (nI b) == decide (a ≤ b)) (by decide +kernel) ha hb
  simpa using this
theorem bits_pw {m : Nat} : (bits m).Pairwise fun a b => a ≤ b := by
  unfold bits
  exact (List.pairwise_lt_range.imp fun h => Nat.le_of_lt h).filter _
theorem bits_nodup {m : Nat} : (bits m).Nodup := List.nodup_range.filter _
theorem sortD_bits {l : List Nat} {m : Nat} (h : l.Perm (bits m)) : sortD (l.map nI) = (bits m).map nI := by
  have lt : ∀ a ∈ l, a < 64 := fun a ha => by have := bits_lt (h.mem_iff.mp ha); omega
  unfold sortD
  rw [← List.map_mergeSort (r := fun a b => decide (a ≤ b)) (f := nI) fun a ha b hb => (nat_le (lt a ha) (lt b hb)).symm]
  congr 1
  have p1 := List.mergeSort_perm l fun a b => decide (a ≤ b)
  refine (p1.trans h).eq_of_pairwise (le := fun a b => a ≤ b) (fun a b _ _ h1 h2 => Nat.le_antisymm h1 h2) ?_ bits_pw
  exact (List.pairwise_mergeSort (le := fun a b => decide (a ≤ b)) (fun a b c h1 h2 => by simp only [decide_eq_true_eq] at *; omega) (fun a b => by simp only [Bool.or_eq_true, decide_eq_true_eq]; omega) l).imp fun h => of_decide_eq_true h
theorem bi_sorted {b : Bool} {l : List Nat} {m : Nat} (h : l.Perm (bits m)) : biD .sorted (sqD b (l.map nI)) = some (.fl ((bits m).map nI)) := by
  cases b with
  | true =>
    show (if okSort _ then some (Dat.fl (sortD _)) else none) = _
    rw [okSort_nat, if_pos rfl, sortD_bits h]
  | false =>
    show (if okSort _ then some (Dat.fl (sortD _)) else none) = _
    rw [okSort_nat, if_pos rfl, sortD_bits h]
@[simp] theorem raw_sq {b : Bool} {xs : List Dat} : raw (sqD b xs) = sqD b xs := by cases b <;> rfl
@[simp] theorem view_sq {b : Bool} {xs : List Dat} {s : St} : view s (sqD b xs) = sqD b xs := by cases b <;> rfl
@[simp] theorem settle_sq {b : Bool} {xs : List Dat} {s : St} : settle (sqD b xs) s = .ok (sqD b xs) s := by cases b <;> rfl
@[simp] theorem seqOf_sq {b : Bool} {xs : List Dat} : seqOf (sqD b xs) = some xs := by cases b <;> rfl
theorem isi_sq {P : Prog} {b : Bool} {xs : List Dat} : ([CR.ty "list", CR.ty "tuple"].any (isiD P (sqD b xs))) = true := by cases b <;> rfl
@[simp] theorem isiOk_sq {P : Prog} {b : Bool} {xs : List Dat} : isiOk P (sqD b xs) = true := by cases b <;> rfl
/-- a dict of the numbers that were seen -/
abbrev dicN (l : List Nat) : List (L2.Key × Dat) := l.map fun (x : Nat) => ((Sum.inl (x : Int) : L2.Key), Dat.bl true)
theorem inD_dic {x : Nat} {l : List Nat} : inD (nI x) (.dic (dicN l)) = some (decide (x ∈ l)) := by
  show some ((dicN l).any fun kv => decide (kv.1 = Sum.inl (x : Int))) = _
  congr 1
  rw [List.any_map]
  by_cases h : x ∈ l
  · rw [decide_eq_true h]
    exact List.any_eq_true.mpr ⟨x, h, by simp⟩
  · rw [decide_eq_false h]
    refine List.any_eq_false.mpr fun y hy => ?_
    simp only [Function.comp_apply, decide_eq_true_eq]
    intro e
    have e : (y : Int) = (x : Int) := by simpa using e
    exact h (by rw [← Int.ofNat_inj.mp e]; exact hy)
theorem putD_dic {x : Nat} {l : List Nat} (h : x ∉ l) : putD (Sum.inl (x : Int)) (.bl true) (dicN l) = dicN (l ++ [x]) := by
  unfold putD
  have : ((dicN l).any fun kv => decide (kv.1 = Sum.inl (x : Int))) = false := by
    have := inD_dic (x := x) (l := l)
    rw [decide_eq_false h] at this
    exact Option.some.inj this
  rw [this, if_neg (by simp)]
  simp [dicN]
@[simp] theorem isi_list {P : Prog} {b : Bool} {xs : List Dat} : isiD P (sqD b xs) (.ty "list") = !b := by cases b <;> rfl
@[simp] theorem isi_tuple {P : Prog} {b : Bool} {xs : List Dat} : isiD P (sqD b xs) (.ty "tuple") = b := by cases b <;> rfl
@[simp] theorem b_or {b : Bool} : (b = false ∨ b = true) = True := by cases b <;> simp
@[simp] theorem b_or' {b : Bool} : (!b || b) = true := by cases b <;> simp
theorem storeIx_at {i : Nat} {s : St} {c c' : Cell} {k v : Dat} (h : s[i]? = some c) (e : setIxD c k v = some c') : storeIx (.obj i) k v s = .ok () (s.set i c') := by
  show (match s[i]? with
    | some c => (match setIxD c k v with
      | some c' => Z.Res.ok () (s.set i c')
      | none => .stuck)
    | none => .stuck) = _
  rw [h]
  show (match setIxD c k v with
      | some c' => Z.Res.ok () (s.set i c')
      | none => .stuck) = _
  rw [e]
theorem storeIx_dic {x : Nat} {l : List Nat} {s : St} (h : x ∉ l) (hl : l.length ≤ 1000) : storeIx (.obj s.length) (nI x) (.bl true) (s ++ [.dic (dicN l)]) = .ok () (s ++ [.dic (dicN (l ++ [x]))]) := by
  rw [storeIx_at get_last (c' := .dic (dicN (l ++ [x]))), set_last]
  show (if Nat.blt (dicN l).length Z.BIG then some (Cell.dic (putD (Sum.inl (x : Int)) (.bl true) (dicN l))) else none) = _
  rw [if_pos (show Nat.blt (dicN l).length Z.BIG = true from Nat.ble_eq_true_of_le (by show (dicN l).length + 1 ≤ 16777216; rw [List.length_map]; omega)), putD_dic h]
@[simp] theorem fldD_ins {P : Prog} {c k : Nat} {fs : List (Nat × Dat)} : fldD P (.ins c fs) k = if datC P c k = true then fs.lookup k else none := (rfl)
theorem storeFld_at {P : Prog} {i c k : Nat} {fs : List (Nat × Dat)} {v : Dat} {s : St} (h : s[i]? = some (.ins c fs)) : storeFld P (.obj i) k v s = if (Nat.blt fs.length 900 && datC P c k) = true then .ok () (s.set i (.ins c (putK k v fs))) else .stuck := by
  unfold storeFld
  simp only [h]
@[simp] theorem storeFldL {P : Prog} {c k : Nat} {fs : List (Nat × Dat)} {v : Dat} {s : St} : storeFld P (.obj s.length) k v (s ++ [.ins c fs]) = if (Nat.blt fs.length 900 && datC P c k) = true then .ok () (s ++ [.ins c (putK k v fs)]) else .stuck := by
  rw [storeFld_at get_last, set_last]
@[simp] theorem putK_nil {k : Nat} {v : Dat} : putK k v [] = [(k, v)] := (rfl)
@[simp] theorem putK_cons {k : Nat} {v : Dat} {p : Nat × Dat} {r : List (Nat × Dat)} : putK k v (p :: r) = if p.1 = k then (k, v) :: r else p :: putK k v r := (rfl)
@[simp] theorem blt_0 : Nat.blt 0 900 = true := rfl
@[simp] theorem blt_1 : Nat.blt 1 900 = true := rfl
@[simp] theorem blt_2 : Nat.blt 2 900 = true := rfl
@[simp] theorem blt_3 : Nat.blt 3 900 = true := rfl
theorem storeIx_lst {m : Nat} {xs : List Dat} {v : Dat} {s : St} (h : m < xs.length) : storeIx (.obj s.length) (nI m) v (s ++ [.lst xs]) = .ok () (s ++ [.lst (xs.set m v)]) := by
  rw [storeIx_at get_last (c' := .lst (xs.set m v)), set_last]
  show (L2.ixN xs.length (m : Int)).map (fun j => Cell.lst (xs.set j v)) = _
  unfold L2.ixN
  rw [if_pos (by omega), if_pos (by omega)]
  simp
theorem storeIx_back {m j : Nat} {xs : List Dat} {v : Dat} {s : St} (h : j + m + 1 = xs.length) : storeIx (.obj s.length) (.int (-1 - (m : Int))) v (s ++ [.lst xs]) = .ok () (s ++ [.lst (xs.set j v)]) := by
  rw [storeIx_at get_last (c' := .lst (xs.set j v)), set_last]
  show (L2.ixN xs.length (-1 - (m : Int))).map (fun j => Cell.lst (xs.set j v)) = _
  unfold L2.ixN
  rw [if_neg (by omega), if_pos (by omega)]
  have : (-1 - (m : Int) + (xs.length : Int)).toNat = j := by omega
  simp [this]
theorem tab_set {N m : Nat} {f : Nat → Dat} {v : Dat} : ((List.range N).map f).set m v = (List.range N).map fun j => if j = m then v else f j := by
  apply List.ext_getElem?
  intro i
  rw [List.getElem?_set, List.getElem?_map]
  by_cases h : i < N
  · rw [List.getElem?_range h]
    by_cases e : m = i
    · subst e
      simp [List.getElem?_range h, h]
    · have e' : ¬ i = m := fun z => e z.symm
      simp [e, e', List.getElem?_range h]
  · have e1 : (List.range N)[i]? = none := List.getElem?_eq_none (by simp; omega)
    by_cases e : m = i
    · subst e; simp [e1, h]
    · simp [e, e1]
@[simp] theorem ix_t0 {x : Dat} {r : List Dat} : ixD (.tup (x :: r)) (.int 0) = some x := atI_nat (i := 0) rfl
@[simp] theorem ix_t1 {x y : Dat} {r : List Dat} : ixD (.tup (x :: y :: r)) (.int 1) = some y := atI_nat (i := 1) rfl
@[simp] theorem ix_l0 {x : Dat} {r : List Dat} : ixD (.lst (x :: r)) (.int 0) = some x := atI_nat (i := 0) rfl
@[simp] theorem ix_l1 {x y : Dat} {r : List Dat} : ixD (.lst (x :: y :: r)) (.int 1) = some y := atI_nat (i := 1) rfl
@[simp] theorem ix_l2 {x y z : Dat} {r : List Dat} : ixD (.lst (x :: y :: z :: r)) (.int 2) = some z := atI_nat (i := 2) rfl
theorem ix_last {xs : List Dat} {x : Dat} : ixD (.lst (xs ++ [x])) (.int (-1)) = some x := by
  have := atI_back (xs := xs ++ [x]) (i := xs.length) (j := 0) (d := x) (by simp) (by simp)
  exact this
@[simp] theorem isTup_lst {xs : List Dat} : isTupD (.lst xs) = false := (rfl)
@[simp] theorem isTup_tup {xs : List Dat} : isTupD (.tup xs) = true := (rfl)
theorem zip3_map {l : List Nat} {f g h : Nat → Dat} : ((l.map f).zip ((l.map g).zip (l.map h))).map (fun p => Dat.tup [p.1, p.2.1, p.2.2]) = l.map fun x => Dat.tup [f x, g x, h x] := by
  rw [List.zip_map', List.zip_map', List.map_map]
  rfl
theorem sum3 {a b c : Bool} : biD .sum (.tup [.bl a, .bl b, .bl c]) = some (.int (((if a then 1 else 0) + ((if b then 1 else 0) + ((if c then 1 else 0) + 0)) : Int))) := by
  cases a <;> cases b <;> cases c <;> rfl
theorem cut_map {α β : Type} {f : α → β} {l : List α} {lo hi : Option Int} : cut (l.map f) lo hi = (cut l lo hi).map f := by
  unfold cut
  rw [List.length_map, ← List.map_drop, ← List.map_take]
@[simp] theorem sl_tup {xs : List Dat} {lo hi : Option Int} : slD (.tup xs) lo hi = some (.tup (cut xs lo hi)) := (rfl)
@[simp] theorem sl_rol {xs : List Int} {lo hi : Option Int} : slD (.rol xs) lo hi = some (.fl ((cut xs lo hi).map .int)) := (rfl)
theorem asc64 {m : Nat} (hm : m < 64) : (((cut (bits m) none (some (-1))).zip (cut (bits m) (some 1) none)).all fun p => decide (p.1 < p.2)) = true := all64 (p := fun m => ((cut (bits m) none (some (-1))).zip (cut (bits m) (some 1) none)).all fun p => decide (p.1 < p.2)) (by decide +kernel) hm
theorem asc_len {m : Nat} (hm : m < 64) : ((cut (bits m) none (some (-1))).zip (cut (bits m) (some 1) none)).length ≤ 6 := of_decide_eq_true (all64 (p := fun m => decide (((cut (bits m) none (some (-1))).zip (cut (bits m) (some 1) none)).length ≤ 6)) (by decide +kernel) hm)
theorem zip2_map {α : Type} {l r : List α} {f g : α → Dat} : ((l.map f).zip (r.map g)).map (fun p => Dat.tup [p.1, p.2]) = (l.zip r).map fun p => Dat.tup [f p.1, g p.2] := by
  rw [List.zip_map, List.map_map]
  rfl
structure Hat where
  cells : List Int
  at_ : Nat
  left : Int
abbrev hatL (h : Hat) : List Dat := [.lst (h.cells.map .int), nI h.at_, .int h.left]
abbrev hatC (h : Hat) : Cell := .lst (hatL h)
theorem bo_mul {i j : Int} (h : -(2 ^ 64) < i ∧ i < 2 ^ 64 ∨ -(2 ^ 64) < j ∧ j < 2 ^ 64) : binop .mul (.int i) (.int j) = some (.int (i * j)) := by
  show (if decide ((-(2 ^ 64) < i ∧ i < 2 ^ 64) ∨ (-(2 ^ 64) < j ∧ j < 2 ^ 64)) then some (Dat.int (i * j)) else none) = _
  rw [if_pos (decide_eq_true h)]
theorem bo_fdiv {i j : Int} (h : 0 < j) (h2 : j < 1073741824) : binop .fdiv (.int i) (.int j) = some (.int (i / j)) := by
  show (if decide (0 < j ∧ j < 1073741824) then some (Dat.int (i / j)) else none) = _
  rw [if_pos (decide_eq_true ⟨h, h2⟩)]
theorem bo_mod {i j : Int} (h : 0 < j) : binop .mod (.int i) (.int j) = some (.int (i % j)) := by
  show (if decide (0 < j) then some (Dat.int (i % j)) else none) = _
  rw [if_pos (decide_eq_true h)]
theorem bo_pow {i j : Int} (h : 0 ≤ j ∧ j ≤ 1000000 ∧ i.natAbs < 2 ^ 64) : binop .pow (.int i) (.int j) = some (.int (i ^ j.toNat)) := by
  show (if decide (0 ≤ j ∧ j ≤ 1000000 ∧ i.natAbs < 2 ^ 64) then some (Dat.int (i ^ j.toNat)) else none) = _
  rw [if_pos (decide_eq_true h)]
@[simp] theorem bi_abs {i : Int} : biD .abs (.int i) = some (.int (if i < 0 then -i else i)) := (rfl)
theorem storeIx_hat1 {a b c : Dat} {t : St} {v : Dat} : storeIx (.obj 0) (.int 1) v (.lst [a, b, c] :: t) = .ok () (.lst [a, v, c] :: t) := by
  rw [storeIx_at (c := .lst [a, b, c]) rfl (c' := .lst [a, v, c]) rfl]
  rfl
theorem storeIx_hat2 {a b c : Dat} {t : St} {v : Dat} : storeIx (.obj 0) (.int 2) v (.lst [a, b, c] :: t) = .ok () (.lst [a, b, v] :: t) := by
  rw [storeIx_at (c := .lst [a, b, c]) rfl (c' := .lst [a, b, v]) rfl]
  rfl
theorem ix_int {l : List Int} {i : Int} (h0 : 0 ≤ i) (h1 : i < l.length) : ∃ c, ixD (.lst (l.map .int)) (.int i) = some (.int c) := by
  obtain ⟨j, rfl⟩ : ∃ j : Nat, i = j := ⟨i.toNat, by omega⟩
  have hj : j < l.length := by omega
  refine ⟨l[j], atI_nat ?_⟩
  rw [List.getElem?_map, List.getElem?_eq_getElem hj]
  rfl
/-- how a number is mixed -/
def mix1 (c : Int) (a : Nat) : Int := (c % 2147483587 + 90023 * (a : Int) + 10069) ^ 5 % 2147483647
def mix2 (c : Int) (a : Nat) : Int := (mix1 c a * (2 * (a : Int) + 3011) + 86011 * (a : Int) * (a : Int) + 90023) ^ 3 % 2147483549
theorem mix1_ok {c : Int} {a : Nat} (h : a ≤ 100000) : binop .pow (.int (c % 2147483587 + 90023 * (a : Int) + 10069)) (.int 5) = some (.int ((c % 2147483587 + 90023 * (a : Int) + 10069) ^ 5)) := by
  have h1 := Int.emod_nonneg c (show (2147483587 : Int) ≠ 0 by decide)
  have h2 := Int.emod_lt_of_pos c (show (0 : Int) < 2147483587 by decide)
  exact bo_pow ⟨by decide, by decide, by omega⟩
theorem mix1_lt {c : Int} {a : Nat} : 0 ≤ mix1 c a ∧ mix1 c a < 2147483647 := ⟨Int.emod_nonneg _ (by decide), Int.emod_lt_of_pos _ (by decide)⟩
theorem mix_mul {c : Int} {a : Nat} : binop .mul (.int (mix1 c a)) (.int (2 * (a : Int) + 3011)) = some (.int (mix1 c a * (2 * (a : Int) + 3011))) := by
  have := mix1_lt (c := c) (a := a)
  exact bo_mul (.inl ⟨by omega, by omega⟩)
theorem sq_mul {a : Nat} (h : a ≤ 100000) : binop .mul (.int (86011 * (a : Int))) (.int (a : Int)) = some (.int (86011 * (a : Int) * (a : Int))) := bo_mul (.inr ⟨by omega, by omega⟩)
theorem mix2_ok {c : Int} {a : Nat} (h : a ≤ 100000) : binop .pow (.int (mix1 c a * (2 * (a : Int) + 3011) + 86011 * (a : Int) * (a : Int) + 90023)) (.int 3) = some (.int ((mix1 c a * (2 * (a : Int) + 3011) + 86011 * (a : Int) * (a : Int) + 90023) ^ 3)) := by
  have h1 := mix1_lt (c := c) (a := a)
  have b1 : mix1 c a * (2 * (a : Int) + 3011) ≤ 2147483647 * 203011 := Int.mul_le_mul (by omega) (by omega) (by omega) (by decide)
  have b0 : 0 ≤ mix1 c a * (2 * (a : Int) + 3011) := Int.mul_nonneg h1.1 (by omega)
  have b3 : 86011 * (a : Int) * (a : Int) ≤ 8601100000 * 100000 := Int.mul_le_mul (by omega) (by omega) (by omega) (by decide)
  have b2 : 0 ≤ 86011 * (a : Int) * (a : Int) := Int.mul_nonneg (by omega) (by omega)
  exact bo_pow ⟨by decide, by decide, by omega⟩
theorem p18 : binop .pow (.int 10) (.int 18) = some (.int 1000000000000000000) := by
  rw [bo_pow (by decide)]; rfl
@[simp] theorem bi_len_sq {b : Bool} {xs : List Dat} : biD .len (sqD b xs) = some (.int xs.length) := by cases b <;> rfl
theorem ix_sq {b : Bool} {xs : List Dat} {i : Nat} {d : Dat} (h : xs[i]? = some d) : ixD (sqD b xs) (nI i) = some d := by
  cases b with
  | true => exact atI_nat h
  | false => exact atI_nat h
/-- a list behind the hat -/
@[simp] theorem get_lastC {α : Type} {t : List α} {c d : α} : (d :: (t ++ [c]))[t.length + 1]? = some c := by simp
@[simp] theorem view_objC {d c : Cell} {t : St} : view (d :: (t ++ [c])) (.obj (t.length + 1)) = cellV c := view_obj get_lastC
@[simp] theorem isLstC {d : Cell} {xs : List Dat} {t : St} : isLst (d :: (t ++ [.lst xs])) (.obj (t.length + 1)) = true := by
  show (match (d :: (t ++ [Cell.lst xs]))[t.length + 1]? with
      | some (.lst _) => true
      | _ => false) = true
  rw [get_lastC]
@[simp] theorem settle_lstC {d : Cell} {xs : List Dat} {t : St} : settle (.obj (t.length + 1)) (d :: (t ++ [.lst xs])) = .ok (.lst xs) (d :: (t ++ [.froz (.lst xs)])) := by
  rw [settle_obj get_lastC (fun _ h => by cases h)]
  simp
theorem lmD_insert {xs : List Dat} {i : Nat} {y : Dat} (h : xs.length < 16777216) (hi : i ≤ xs.length) : lmD .insert xs [nI i, y] = some (xs.take i ++ y :: xs.drop i, .non) := by
  show (if (Nat.blt xs.length Z.BIG && decide (0 ≤ (i : Int) ∧ (i : Int) ≤ xs.length)) = true then some (xs.take (i : Int).toNat ++ y :: xs.drop (i : Int).toNat, Dat.non) else none) = _
  rw [show Nat.blt xs.length Z.BIG = true from Nat.ble_eq_true_of_le h, decide_eq_true (show 0 ≤ (i : Int) ∧ (i : Int) ≤ xs.length by omega), if_pos (by rfl)]
  rfl
theorem insert_perm {xs : List Dat} {i : Nat} {y : Dat} : (xs.take i ++ y :: xs.drop i).Perm (y :: xs) := by
  have := List.perm_middle (l₁ := xs.take i) (l₂ := xs.drop i) (a := y)
  rw [List.take_append_drop] at this
  exact this
@[simp] theorem set_lastC {α : Type} {t : List α} {c d e : α} : (d :: (t ++ [c])).set (t.length + 1) e = d :: (t ++ [e]) := by simp
theorem sum_cast {α : Type} {f : α → Nat} {l : List α} : (l.map fun x => ((f x : Nat) : Int)).sum = (((l.map f).sum : Nat) : Int) := by
  induction l with
  | nil => rfl
  | cons x r ih => simp only [List.map_cons, List.sum_cons, ih]; omega
theorem bi_sumN {α : Type} {f : α → Nat} {l : List α} : biD .sum (.lst (l.map fun x => nI (f x))) = some (nI (l.map f).sum) := by
  rw [bi_sum (f := fun x => ((f x : Nat) : Int)), sum_cast]
theorem bi_sumL {l : List Nat} : biD .sum (.lst (l.map nI)) = some (nI l.sum) := by
  have := bi_sumN (f := fun x : Nat => x) (l := l)
  rw [List.map_id'] at this
  exact this
theorem ix_nat {l : List Nat} {i : Nat} (h : i < l.length) : ixD (.lst (l.map nI)) (nI i) = some (nI (l.getD i 0)) := by
  refine atI_nat ?_
  rw [List.getElem?_map, List.getElem?_eq_getElem h, List.getD_eq_getElem?_getD, List.getElem?_eq_getElem h]
  rfl
/-- a loop that draws -/
theorem loopC_hat {α β : Type} {e : α → Dat} {d : β → Dat} {f : Dat → St → Z.Res (Option Dat)} {Q : α → β → Prop} {c B : Nat} {t : St} : ∀ {xs : List α} {h : Hat}, (∀ x ∈ xs, ∀ h : Hat, h.at_ + c ≤ B → ∃ y h', f (e x) (hatC h :: t) = .ok (some (d y)) (hatC h' :: t) ∧ Q x y ∧ h'.at_ ≤ h.at_ + c) → h.at_ + c * xs.length ≤ B →
    ∃ (ps : List (α × β)) (h' : Hat), ps.map (·.1) = xs ∧ loopC f (xs.map e) (hatC h :: t) = .ok (ps.map fun p => d p.2) (hatC h' :: t) ∧ (∀ p ∈ ps, Q p.1 p.2) ∧ h'.at_ ≤ h.at_ + c * xs.length
  | [], h, _, _ => ⟨[], h, rfl, rfl, (fun _ m => by cases m), Nat.le_refl _⟩
  | x :: r, h, H, hB => by
    rw [List.length_cons, Nat.mul_succ] at hB
    obtain ⟨y, h1, e1, q1, b1⟩ := H x List.mem_cons_self h (by omega)
    obtain ⟨ps, h2, e2, e3, q2, b2⟩ := loopC_hat (xs := r) (h := h1) (fun x hx => H x (List.mem_cons_of_mem _ hx)) (by omega)
    refine ⟨(x, y) :: ps, h2, by rw [List.map_cons, e2], ?_, fun p hp => ?_, by rw [List.length_cons, Nat.mul_succ]; omega⟩
    · rw [List.map_cons]
      unfold loopC
      rw [e1, bnd_ok, e3, bnd_ok]
      rfl
    · rcases List.mem_cons.mp hp with rfl | hp
      · exact q1
      · exact q2 p hp
theorem storeIx_lstC {d : Cell} {m : Nat} {xs : List Dat} {v : Dat} {t : St} (h : m < xs.length) : storeIx (.obj (t.length + 1)) (nI m) v (d :: (t ++ [.lst xs])) = .ok () (d :: (t ++ [.lst (xs.set m v)])) := by
  rw [storeIx_at get_lastC (c' := .lst (xs.set m v)), set_lastC]
  show (L2.ixN xs.length (m : Int)).map (fun j => Cell.lst (xs.set j v)) = _
  unfold L2.ixN
  rw [if_pos (by omega), if_pos (by omega)]
  simp
theorem ixL_nat {l : List Nat} {i : Nat} (h : i < l.length) : ixL (.lst (l.map nI)) (nI i) = some (nI (l.getD i 0)) := ix_nat h
theorem loopC_hatC {α β : Type} {e : α → Dat} {d : β → Dat} {f : Dat → St → Z.Res (Option Dat)} {xs : List α} {h : Hat} {t : St} (C : Z.Res (List Dat) → Prop) (Q : α → β → Prop) (c B : Nat) (hB : h.at_ + c * xs.length ≤ B)
    (hC : ∀ (ps : List (α × β)) (h' : Hat), ps.map (·.1) = xs → (∀ p ∈ ps, Q p.1 p.2) → h'.at_ ≤ h.at_ + c * xs.length → C (.ok (ps.map fun p => d p.2) (hatC h' :: t)))
    (H : ∀ x ∈ xs, ∀ h : Hat, h.at_ + c ≤ B → ∃ y h', f (e x) (hatC h :: t) = .ok (some (d y)) (hatC h' :: t) ∧ Q x y ∧ h'.at_ ≤ h.at_ + c) : C (loopC f (xs.map e) (hatC h :: t)) := by
  obtain ⟨ps, h', e1, e2, e3, e4⟩ := loopC_hat (Q := Q) (c := c) (B := B) H hB
  rw [e2]
  exact hC ps h' e1 e3 e4
theorem sum_set {l : List Nat} {i : Nat} (h : i < l.length) : (l.set i (l.getD i 0 + 1)).sum = l.sum + 1 := by
  induction l generalizing i with
  | nil => simp at h
  | cons x r ih =>
    cases i with
    | zero => simp; omega
    | succ i =>
      have := ih (i := i) (by simpa using h)
      simp only [List.set_cons_succ, List.sum_cons, List.getD_cons_succ] at *
      omega
theorem perm_map_inv {α β : Type} {f : α → β} {ys zs : List β} (h : ys.Perm zs) : ∀ {l : List α}, zs = l.map f → ∃ l' : List α, l'.Perm l ∧ ys = l'.map f := by
  induction h with
  | nil =>
    intro l e
    have : l = [] := by simpa using e.symm
    subst this
    exact ⟨[], .nil, rfl⟩
  | cons x p ih =>
    intro l e
    cases l with
    | nil => cases e
    | cons a l =>
      rw [List.map_cons] at e
      injection e with e1 e2
      obtain ⟨l', p', e'⟩ := ih e2
      exact ⟨a :: l', p'.cons a, by rw [List.map_cons, e1, e']⟩
  | swap x y r =>
    intro l e
    match l, e with
    | a :: b :: l, e =>
      simp only [List.map_cons, List.cons.injEq] at e
      obtain ⟨e1, e2, e3⟩ := e
      exact ⟨b :: a :: l, .swap a b l, by simp [e1, e2, e3]⟩
  | trans p q ih1 ih2 =>
    intro l e
    obtain ⟨l2, p2, e2⟩ := ih2 e
    obtain ⟨l1, p1, e1⟩ := ih1 e2
    exact ⟨l1, p1.trans p2, e1⟩
/-- the first turn freezes a list -/
theorem loopC_frz {α : Type} {e : α → Dat} {f : Dat → St → Z.Res (Option Dat)} {p : α → Bool} {g : α → Dat} {s s1 : St} {xs : List α} (ne : xs ≠ []) (h0 : ∀ x ∈ xs, f (e x) s = .ok (if p x = true then some (g x) else none) s1) (h1 : ∀ x ∈ xs, f (e x) s1 = .ok (if p x = true then some (g x) else none) s1) : loopC f (xs.map e) s = .ok ((xs.filter p).map g) s1 := by
  cases xs with
  | nil => exact absurd rfl ne
  | cons x r =>
    rw [List.map_cons]
    unfold loopC
    rw [h0 x List.mem_cons_self, bnd_ok, loopC_if fun y hy => h1 y (List.mem_cons_of_mem _ hy), bnd_ok, List.filter_cons]
    by_cases q : p x = true
    · rw [if_pos q, if_pos q]; rfl
    · rw [if_neg q, if_neg q]; rfl
theorem cut_len {α : Type} {l : List α} {lo hi : Option Int} : (cut l lo hi).length ≤ l.length := by
  unfold cut
  rw [List.length_take, List.length_drop]
  omega
theorem exB_app {P : Prog} {Φ Ψ : Fun} {l r : List IS} : ∀ {δ : Env} {s : St}, exB P Φ Ψ (l ++ r) δ s = (exB P Φ Ψ l δ s).bnd fun p s => match p.1 with
    | .nx => exB P Φ Ψ r p.2 s
    | f => .ok (f, p.2) s := by
  induction l with
  | nil => intro δ s; rw [List.nil_append, exB_e0]; rfl
  | cons c l ih =>
    intro δ s
    rw [List.cons_append, exB_e1, exB_e1]
    cases exS P Φ Ψ c δ s with
    | ok p s1 =>
      obtain ⟨fl, δ1⟩ := p
      cases fl with
      | nx => exact ih
      | _ => rfl
    | err c fs s1 => rfl
    | stuck => rfl
theorem settle_frzC {d : Cell} {x : Dat} {t : St} : settle (.obj (t.length + 1)) (d :: (t ++ [.froz x])) = .ok x (d :: (t ++ [.froz x])) := by
  show (match (d :: (t ++ [Cell.froz x]))[t.length + 1]? with
    | some (.lst xs) => Z.Res.ok (Dat.lst xs) ((d :: (t ++ [Cell.froz x])).set (t.length + 1) (.froz (.lst xs)))
    | some (.ins c fs) => Z.Res.ok (Dat.ins c fs) ((d :: (t ++ [Cell.froz x])).set (t.length + 1) (.froz (.ins c fs)))
    | some (.dic kvs) => Z.Res.ok (Dat.dic kvs) ((d :: (t ++ [Cell.froz x])).set (t.length + 1) (.froz (.dic kvs)))
    | some (.froz d') => Z.Res.ok d' (d :: (t ++ [Cell.froz x]))
    | none => Z.Res.stuck) = _
  rw [get_lastC]
end ME

set_option linter.all false
set_option maxRecDepth 100000
set_option maxHeartbeats 2000000
namespace ME
open Z (Dat Cell St Env Res opt view raw settle live BOp COp big binop toPy toPys shapedO eqD isInts inD isStr isNonD cmpop truth ixD ixL cut slD BI LM PM CR Tgt HE IE IT It IS FunI ClsI Prog bindT wipeE tyIs isiD npOf plainC isiOk ownEq datC fldD belowC excQ hasFld evH evHs isBls isStrs isTupD seqOf maxI minI cmpD ltD encD isT1 isN0 okP okSort sortD sortZ biD bi2D rngOk rngD joinD pmD pmT isLst lmD fmtD keyD valD putD setIxD putK permD loopC Fl loopF loopW Fun setAll ev evT evs evD evF evO evI exS exB parG storeFld storeIx runF callF REx)
open PySem (Str PyData)
open Z.Res
/-- values that equal just if they are one -/
structure Eqs {α : Type} [DecidableEq α] (d : α → Dat) (p : α → PyData) (n : Nat) (ok : α → Prop) : Prop where
  py : ∀ a, ok a → toPy (d a) = some (p a)
  lay : ∀ a, ok a → (p a).canLay0 = true
  dep : ∀ a, ok a → (p a).depth ≤ n
  eqv : ∀ a b, ok a → ok b → PyData.eqv (p a) (p b) = decide (a = b)
section
variable {α : Type} [DecidableEq α] {d : α → Dat} {p : α → PyData} {n : Nat} {ok : α → Prop}
theorem Eqs.pys (h : Eqs d p n ok) : ∀ {l : List α}, (∀ a ∈ l, ok a) → toPys (l.map d) = some (l.map p)
  | [], _ => rfl
  | x :: r, hl => by
    show (match toPy (d x), toPys (r.map d) with
      | some p, some ps => some (p :: ps)
      | _, _ => none) = _
    rw [h.py x (hl x List.mem_cons_self), h.pys fun a m => hl a (List.mem_cons_of_mem _ m)]
    rfl
theorem Eqs.lays (h : Eqs d p n ok) : ∀ {l : List α}, (∀ a ∈ l, ok a) → PyData.canLayAll0 (l.map p) = true
  | [], _ => by simp [PyData.canLayAll0]
  | x :: r, hl => by
    rw [List.map_cons]
    simp [PyData.canLayAll0, h.lay x (hl x List.mem_cons_self), h.lays (l := r) fun a m => hl a (List.mem_cons_of_mem _ m)]
theorem Eqs.deps (h : Eqs d p n ok) : ∀ {l : List α}, (∀ a ∈ l, ok a) → PyData.depthAll (l.map p) ≤ n
  | [], _ => by simp [PyData.depthAll]
  | x :: r, hl => by
    rw [List.map_cons]
    have h1 := h.dep x (hl x List.mem_cons_self)
    have h2 := h.deps (l := r) fun a m => hl a (List.mem_cons_of_mem _ m)
    simp only [PyData.depthAll]
    omega
theorem Eqs.eqvs (h : Eqs d p n ok) : ∀ {l k : List α}, (∀ a ∈ l, ok a) → (∀ a ∈ k, ok a) → PyData.eqvAll (l.map p) (k.map p) = decide (l = k)
  | [], [], _, _ => by simp [PyData.eqvAll]
  | [], _ :: _, _, _ => by simp [PyData.eqvAll]
  | _ :: _, [], _, _ => by simp [PyData.eqvAll]
  | x :: r, y :: q, h1, h2 => by
    rw [List.map_cons, List.map_cons]
    simp only [PyData.eqvAll]
    rw [h.eqv x y (h1 x List.mem_cons_self) (h2 y List.mem_cons_self), h.eqvs (l := r) (k := q) (fun a m => h1 a (List.mem_cons_of_mem _ m)) fun a m => h2 a (List.mem_cons_of_mem _ m)]
    simp
theorem Eqs.lst (h : Eqs d p n ok) : Eqs (fun l : List α => Dat.lst (l.map d)) (fun l => .list (l.map p)) (n + 1) fun l => ∀ a ∈ l, ok a := by
  refine ⟨fun l hl => ?_, fun l hl => ?_, fun l hl => ?_, fun l k h1 h2 => ?_⟩
  · show (toPys (l.map d)).map PyData.list = _
    rw [h.pys hl]; rfl
  · simp only [PyData.canLay0]; exact h.lays hl
  · have := h.deps hl
    simp only [PyData.depth]; omega
  · simp only [PyData.eqv]; exact h.eqvs h1 h2
theorem Eqs.tup (h : Eqs d p n ok) : Eqs (fun l : List α => Dat.tup (l.map d)) (fun l => .tuple (l.map p)) (n + 1) fun l => ∀ a ∈ l, ok a := by
  refine ⟨fun l hl => ?_, fun l hl => ?_, fun l hl => ?_, fun l k h1 h2 => ?_⟩
  · show (toPys (l.map d)).map PyData.tuple = _
    rw [h.pys hl]; rfl
  · simp only [PyData.canLay0]; exact h.lays hl
  · have := h.deps hl
    simp only [PyData.depth]; omega
  · simp only [PyData.eqv]; exact h.eqvs h1 h2
/-- the same, told by something else -/
theorem Eqs.by_ {β : Type} [DecidableEq β] (h : Eqs d p n ok) {f : β → α} {okb : β → Prop} (hf : ∀ b, okb b → ok (f b)) (inj : ∀ a b, okb a → okb b → f a = f b → a = b) : Eqs (fun b => d (f b)) (fun b => p (f b)) n okb := by
  refine ⟨fun b hb => h.py _ (hf b hb), fun b hb => h.lay _ (hf b hb), fun b hb => h.dep _ (hf b hb), fun a b ha hb => ?_⟩
  rw [h.eqv _ _ (hf a ha) (hf b hb)]
  by_cases q : a = b
  · rw [q]; simp
  · have : f a ≠ f b := fun e => q (inj a b ha hb e)
    simp [q, this]
theorem Eqs.shaped (h : Eqs d p n ok) (hn : n ≤ 64) {a : α} (ha : ok a) : PySem.SeqAt.shaped (p a) = true := by
  unfold PySem.SeqAt.shaped
  rw [h.lay a ha, decide_eq_true (Nat.le_trans (h.dep a ha) hn)]
  rfl
theorem Eqs.eqD (h : Eqs d p n ok) (hn : n ≤ 64) {a b : α} (ha : ok a) (hb : ok b) : eqD (d a) (d b) = some (decide (a = b)) := by
  rw [eqD_of (h.py a ha) (h.py b hb) (h.shaped hn ha) (h.shaped hn hb), h.eqv a b ha hb]
theorem Eqs.anyq (h : Eqs d p n ok) {a : α} (ha : ok a) : ∀ {l : List α}, (∀ a ∈ l, ok a) → ((l.map p).any fun z => PyData.eqv z (p a)) = decide (a ∈ l)
  | [], _ => by simp
  | x :: r, hl => by
    rw [List.map_cons, List.any_cons, h.eqv x a (hl x List.mem_cons_self) ha, h.anyq ha fun a m => hl a (List.mem_cons_of_mem _ m)]
    by_cases q : x = a
    · subst q; simp
    · by_cases w : a ∈ r
      · simp [w]
      · have : a ≠ x := fun e => q e.symm
        simp [q, w, this]
theorem Eqs.inL (h : Eqs d p n ok) (hn : n + 1 ≤ 64) {a : α} {l : List α} (ha : ok a) (hl : ∀ a ∈ l, ok a) : inD (d a) (.lst (l.map d)) = some (decide (a ∈ l)) := by
  show (match shapedO (toPy (d a)), toPys (l.map d) with
    | some p, some qs => if PySem.SeqAt.shaped (.list qs) then some (qs.any fun z => PyData.eqv z p) else none
    | _, _ => none) = _
  rw [h.py a ha, h.pys hl]
  simp only [shapedO, h.shaped (Nat.le_of_succ_le hn) ha, if_true]
  rw [if_pos (h.lst.shaped hn hl), h.anyq ha hl]
theorem Eqs.inT (h : Eqs d p n ok) (hn : n + 1 ≤ 64) {a : α} {l : List α} (ha : ok a) (hl : ∀ a ∈ l, ok a) : inD (d a) (.tup (l.map d)) = some (decide (a ∈ l)) := by
  show (match shapedO (toPy (d a)), toPys (l.map d) with
    | some p, some qs => if PySem.SeqAt.shaped (.list qs) then some (qs.any fun z => PyData.eqv z p) else none
    | _, _ => none) = _
  rw [h.py a ha, h.pys hl]
  simp only [shapedO, h.shaped (Nat.le_of_succ_le hn) ha, if_true]
  rw [if_pos (h.lst.shaped hn hl), h.anyq ha hl]
end
theorem eqs_int : Eqs (fun i : Int => Dat.int i) (fun i => .int i) 1 fun _ => True := by
  refine ⟨fun a _ => rfl, fun a _ => ?_, fun a _ => ?_, fun a b _ _ => ?_⟩
  · simp [PyData.canLay0]
  · simp [PyData.depth]
  · simp only [PyData.eqv]
    by_cases q : a = b
    · subst q; simp
    · simp [q]
theorem eqs_nat : Eqs nI (fun i => .int (i : Int)) 1 fun _ => True := eqs_int.by_ (f := fun n : Nat => (n : Int)) (fun _ _ => trivial) fun a b _ _ e => Int.ofNat_inj.mp e
theorem bits_inj {a b : Nat} (ha : a < 64) (hb : b < 64) (e : bits a = bits b) : a = b := by
  have := all64b (p := fun a b => !decide (bits a = bits b) || decide (a = b)) (by decide +kernel) ha hb
  simpa [e] using this
theorem eqs_lot : Eqs lotD (fun m => .tuple ((bits m).map fun (i : Nat) => .int (i : Int))) 2 fun m => m < 64 := eqs_nat.tup.by_ (f := bits) (fun _ _ _ _ => trivial) fun a b ha hb e => bits_inj ha hb e
theorem eqD_3 {a b c x y z : Int} : eqD (.lst [.int a, .int b, .int c]) (.lst [.int x, .int y, .int z]) = some (decide ([a, b, c] = [x, y, z])) := eqs_int.lst.eqD (a := [a, b, c]) (b := [x, y, z]) (by omega) (fun _ _ => trivial) (fun _ _ => trivial)
theorem pm_index {o : List Nat} {i : Nat} (h : i ∈ o) : pmD .index (.lst (o.map nI)) [nI i] = some (nI (o.idxOf i)) := by
  show (match toPys (o.map nI), shapedO (toPy (nI i)) with
    | some ps, some p => if PySem.SeqAt.shaped (.list ps) then (ps.findIdx? fun z => PyData.eqv z p).map fun k => Dat.int k else none
    | _, _ => none) = _
  rw [toPys_nat]
  have hs : PySem.SeqAt.shaped (.list (o.map fun (x : Nat) => PyData.int (x : Int))) = true := eqs_nat.lst.shaped (a := o) (by omega) fun _ _ => trivial
  have h1 : shapedO (toPy (nI i)) = some (.int (i : Int)) := by
    simp only [shapedO, eqs_nat.py i trivial, eqs_nat.shaped (a := i) (by omega) trivial, if_true]
  rw [h1]
  show (if PySem.SeqAt.shaped (.list (o.map fun (x : Nat) => PyData.int (x : Int))) = true then _ else none) = _
  rw [if_pos hs]
  have e : ((o.map fun (x : Nat) => PyData.int (x : Int)).findIdx? fun z => PyData.eqv z (.int (i : Int))) = o.findIdx? (· == i) := by
    rw [List.findIdx?_map]
    congr 1
    funext x
    show PyData.eqv (.int (x : Int)) (.int (i : Int)) = _
    rw [eqs_nat.eqv x i trivial trivial]
    by_cases q : x = i
    · subst q; simp
    · simp [q]
  rw [e]
  have : o.findIdx? (· == i) = some (o.idxOf i) := by
    rw [List.findIdx?_eq_some_iff_findIdx_eq]
    exact ⟨List.findIdx_lt_length_of_exists ⟨i, h, by simp⟩, rfl⟩
  rw [this]
  rfl
end ME

set_option linter.all false
set_option maxRecDepth 100000
set_option maxHeartbeats 2000000
namespace ME
/-- bar by bar upwards -/
def upL (k m : Nat) : List Nat := ((List.range 6).filter fun i => decide (i < k) && !m.testBit i).map fun i => m ||| 2 ^ i
def topB (k : Nat) (t : Nat → Bool) (m : Nat) : Bool := t m && !(upL k m).any t
def grL (k : Nat) (t : Nat → Bool) : List Nat := srt ((List.range (2 ^ k)).filter (topB k t))
def shL (k : Nat) (t : Nat → Bool) : List Nat := srt ((List.range (2 ^ k)).filter t)
def co (k m : Nat) : Nat := 2 ^ k - 1 - m
/-- a book's short lots -/
structure Good (k : Nat) (t : Nat → Bool) : Prop where
  k3 : 3 ≤ k
  k6 : k ≤ 6
  dual : ∀ m, m < 2 ^ k → t (co k m) = !t m
  down : ∀ m i, m < 2 ^ k → i < k → t (m ||| 2 ^ i) = true → t m = true
theorem co_bits : ((List.range 7).all fun k => (List.range (2 ^ k)).all fun m => decide ((List.range k).filter (fun i => decide (i ∉ bits m)) = bits (co k m))) = true := by decide +kernel
theorem co_lt {k m : Nat} (h : m < 2 ^ k) : co k m < 2 ^ k := by unfold co; omega
theorem co_co {k m : Nat} (h : m < 2 ^ k) : co k (co k m) = m := by unfold co; omega
theorem co_ne {k m : Nat} (h : 1 ≤ k) (hm : m < 2 ^ k) : co k m ≠ m := by
  unfold co
  obtain ⟨j, rfl⟩ : ∃ j, k = j + 1 := ⟨k - 1, by omega⟩
  rw [Nat.pow_succ] at *
  omega
theorem lt64 {k m : Nat} (hk : k ≤ 6) (h : m < 2 ^ k) : m < 64 := Nat.lt_of_lt_of_le h (pow_le hk)
theorem sub_eq {a b : Nat} : sub a b = true ↔ a &&& b = a := by unfold sub; exact beq_iff_eq
theorem sub_refl (a : Nat) : sub a a = true := sub_eq.mpr (Nat.and_self a)
theorem sub_trans {a b c : Nat} (h1 : sub a b = true) (h2 : sub b c = true) : sub a c = true := by
  rw [sub_eq] at *
  rw [← h1, Nat.and_assoc, h2]
theorem sub_or (a i : Nat) : sub a (a ||| 2 ^ i) = true := sub_eq.mpr (by rw [Nat.and_or_distrib_left, Nat.and_self]; apply Nat.eq_of_testBit_eq; intro j; simp; intro h; simp [h])
theorem step_up {a b : Nat} (ha : a < 64) (hb : b < 64) (h : sub a b = true) (ne : a ≠ b) : ∃ i, i < 6 ∧ b.testBit i = true ∧ a.testBit i = false ∧ sub (a ||| 2 ^ i) b = true ∧ a < a ||| 2 ^ i ∧ a ||| 2 ^ i ≤ b := by
  have := all64b (p := fun a b => !sub a b || decide (a = b) || (List.range 6).any fun i => b.testBit i && (!a.testBit i && (sub (a ||| 2 ^ i) b && (decide (a < a ||| 2 ^ i) && decide (a ||| 2 ^ i ≤ b))))) (by decide +kernel) ha hb
  simp only [h, Bool.not_true, Bool.false_or, decide_eq_false ne] at this
  obtain ⟨i, hi, e⟩ := List.any_eq_true.mp this
  simp only [Bool.and_eq_true, Bool.not_eq_true', decide_eq_true_eq] at e
  exact ⟨i, List.mem_range.mp hi, e.1, e.2.1, e.2.2.1, e.2.2.2.1, e.2.2.2.2⟩
theorem bit_lt {k m i : Nat} (h : m < 2 ^ k) (e : m.testBit i = true) : i < k := Nat.lt_of_not_le fun z => by
  rw [Nat.testBit_lt_two_pow (Nat.lt_of_lt_of_le h (Nat.pow_le_pow_right (by omega) z))] at e
  cases e
theorem mem_up {k m o : Nat} : o ∈ upL k m ↔ ∃ i, i < 6 ∧ i < k ∧ m.testBit i = false ∧ o = m ||| 2 ^ i := by
  unfold upL
  rw [List.mem_map]
  constructor
  · rintro ⟨i, hi, rfl⟩
    obtain ⟨h1, h2⟩ := List.mem_filter.mp hi
    simp only [Bool.and_eq_true, decide_eq_true_eq, Bool.not_eq_true'] at h2
    exact ⟨i, List.mem_range.mp h1, h2.1, h2.2, rfl⟩
  · rintro ⟨i, h1, h2, h3, rfl⟩
    exact ⟨i, List.mem_filter.mpr ⟨List.mem_range.mpr h1, by simp [h2, h3]⟩, rfl⟩
theorem up_lt {k m o : Nat} (hm : m < 2 ^ k) (h : o ∈ upL k m) : o < 2 ^ k := by
  obtain ⟨i, _, h2, _, rfl⟩ := mem_up.mp h
  exact or_lt hm h2
section
variable {k : Nat} {t t' : Nat → Bool}
theorem Good.dn (g : Good k t) {a b : Nat} (hb : b < 2 ^ k) (h : sub a b = true) (e : t b = true) : t a = true := by
  have key : ∀ n a, b - a ≤ n → a ≤ b → sub a b = true → t a = true := by
    intro n
    induction n with
    | zero =>
      intro a h1 h2 h3
      have : a = b := by omega
      rw [this]; exact e
    | succ n ih =>
      intro a h1 h2 h3
      by_cases q : a = b
      · rw [q]; exact e
      · have hb6 := lt64 g.k6 hb
        obtain ⟨i, i1, i2, i3, i4, i5, i6⟩ := step_up (by omega) hb6 h3 q
        exact g.down a i (by omega) (bit_lt hb i2) (ih _ (by omega) i6 i4)
  have : a ≤ b := by
    rw [sub_eq] at h
    rw [← h]; exact Nat.and_le_right
  exact key _ a (Nat.le_refl _) this h
theorem topB_iff {m : Nat} : topB k t m = true ↔ t m = true ∧ ∀ o ∈ upL k m, t o = false := by
  unfold topB
  rw [Bool.and_eq_true, Bool.not_eq_true', List.any_eq_false]
  simp
theorem mem_gr (hk : k ≤ 6) {m : Nat} : m ∈ grL k t ↔ m < 2 ^ k ∧ topB k t m = true := by
  unfold grL srt
  rw [List.mem_filter, decide_eq_true_eq, List.mem_filter, List.mem_range, ordL_mem]
  exact ⟨fun h => h.2, fun h => ⟨lt64 hk h.1, h⟩⟩
theorem mem_sh (hk : k ≤ 6) {m : Nat} : m ∈ shL k t ↔ m < 2 ^ k ∧ t m = true := by
  unfold shL srt
  rw [List.mem_filter, decide_eq_true_eq, List.mem_filter, List.mem_range, ordL_mem]
  exact ⟨fun h => h.2, fun h => ⟨lt64 hk h.1, h⟩⟩
theorem srt_nodup {l : List Nat} : (srt l).Nodup := ordL_nodup.filter _
theorem gr_nodup : (grL k t).Nodup := srt_nodup
theorem gr_lt (hk : k ≤ 6) {m : Nat} (h : m ∈ grL k t) : m < 64 := lt64 hk ((mem_gr hk).mp h).1
theorem srt_congr {l l' : List Nat} (h : ∀ m, m ∈ l ↔ m ∈ l') : srt l = srt l' := by
  unfold srt
  refine List.filter_congr fun m _ => ?_
  simp [h m]
theorem gr_srt (hk : k ≤ 6) {l : List Nat} (h : l.Perm (grL k t)) : srt l = grL k t := by
  rw [srt_congr (l' := (List.range (2 ^ k)).filter (topB k t)) fun m => ?_]
  · rfl
  · rw [h.mem_iff, mem_gr hk, List.mem_filter, List.mem_range]
/-- below each short lot's greatest ones -/
theorem up_top (hk : k ≤ 6) {m : Nat} (hm : m < 2 ^ k) (h : t m = true) : ∃ g, g < 2 ^ k ∧ topB k t g = true ∧ sub m g = true := by
  have key : ∀ n m, 2 ^ k - m ≤ n → m < 2 ^ k → t m = true → ∃ g, g < 2 ^ k ∧ topB k t g = true ∧ sub m g = true := by
    intro n
    induction n with
    | zero => intro m h1 h2; omega
    | succ n ih =>
      intro m h1 h2 h3
      cases e : topB k t m with
      | true => exact ⟨m, h2, e, sub_refl m⟩
      | false =>
        have : ∃ o ∈ upL k m, t o = true := by
          unfold topB at e
          rw [h3, Bool.true_and, Bool.not_eq_false'] at e
          exact List.any_eq_true.mp e
        obtain ⟨o, ho, ht⟩ := this
        have hl := up_lt h2 ho
        obtain ⟨i, i1, i2, i3, rfl⟩ := mem_up.mp ho
        have gt : m < m ||| 2 ^ i := by
          have h0 : m ≤ m ||| 2 ^ i := Nat.left_le_or
          have : m ≠ m ||| 2 ^ i := fun z => by
            have := congrArg (Nat.testBit · i) z
            simp [i3] at this
          omega
        obtain ⟨g, g1, g2, g3⟩ := ih _ (by omega) hl ht
        exact ⟨g, g1, g2, sub_trans (sub_or m i) g3⟩
  exact key _ m (Nat.le_refl _) hm h
theorem Good.any (g : Good k t) {l : List Nat} (hl : ∀ m, m ∈ l ↔ m ∈ grL k t) {m : Nat} (hm : m < 2 ^ k) : (l.any fun o => sub m o) = t m := by
  cases e : t m with
  | true =>
    obtain ⟨o, o1, o2, o3⟩ := up_top g.k6 hm e
    exact List.any_eq_true.mpr ⟨o, (hl o).mpr ((mem_gr g.k6).mpr ⟨o1, o2⟩), o3⟩
  | false =>
    refine List.any_eq_false.mpr fun o ho hs => ?_
    obtain ⟨o1, o2⟩ := (mem_gr g.k6).mp ((hl o).mp ho)
    rw [g.dn o1 hs (topB_iff.mp o2).1] at e
    cases e
theorem topB_congr {m : Nat} (h : ∀ m, m < 2 ^ k → t m = t' m) (hm : m < 2 ^ k) : topB k t m = topB k t' m := by
  unfold topB
  rw [h m hm]
  congr 2
  rw [Bool.eq_iff_iff, List.any_eq_true, List.any_eq_true]
  constructor
  · rintro ⟨o, h1, h2⟩; exact ⟨o, h1, by rw [← h o (up_lt hm h1)]; exact h2⟩
  · rintro ⟨o, h1, h2⟩; exact ⟨o, h1, by rw [h o (up_lt hm h1)]; exact h2⟩
theorem gr_congr (h : ∀ m, m < 2 ^ k → t m = t' m) : grL k t = grL k t' := by
  unfold grL
  congr 1
  exact List.filter_congr fun m hm => topB_congr h (List.mem_range.mp hm)
theorem sh_congr (h : ∀ m, m < 2 ^ k → t m = t' m) : shL k t = shL k t' := by
  unfold shL
  congr 1
  exact List.filter_congr fun m hm => h m (List.mem_range.mp hm)
theorem Good.congr (g : Good k t) (h : ∀ m, m < 2 ^ k → t m = t' m) : Good k t' := by
  refine ⟨g.k3, g.k6, fun m hm => ?_, fun m i hm hi e => ?_⟩
  · rw [← h m hm, ← h _ (co_lt hm)]; exact g.dual m hm
  · rw [← h m hm]; exact g.down m i hm hi (by rw [h _ (or_lt hm hi)]; exact e)
theorem gr_inj (g : Good k t) (g' : Good k t') (e : grL k t = grL k t') : ∀ m, m < 2 ^ k → t m = t' m := fun m hm => by
  rw [← g.any (l := grL k t) (fun _ => Iff.rfl) hm, e, g'.any (fun _ => Iff.rfl) hm]
end
end ME

set_option linter.all false
set_option maxRecDepth 100000
set_option maxHeartbeats 2000000
namespace ME
/-- how many pass -/
def cnt (l : List Nat) (p : Nat → Bool) : Nat := (l.map fun m => (p m).toNat).sum
theorem cnt_len (l : List Nat) (p : Nat → Bool) : (l.filter p).length = cnt l p := by
  induction l with
  | nil => rfl
  | cons x r ih =>
    unfold cnt at *
    rw [List.map_cons, List.sum_cons, List.filter_cons]
    cases e : p x <;> simp [e, ih] <;> omega
theorem cnt_add {l : List Nat} {p q r : Nat → Bool} (h : ∀ m ∈ l, (p m).toNat + (q m).toNat = (r m).toNat) : cnt l p + cnt l q = cnt l r := by
  induction l with
  | nil => rfl
  | cons x s ih =>
    have h1 := h x List.mem_cons_self
    have h2 := ih fun m hm => h m (List.mem_cons_of_mem _ hm)
    unfold cnt at *
    simp only [List.map_cons, List.sum_cons]
    omega
theorem cnt_le {l : List Nat} {p q r : Nat → Bool} (h : ∀ m ∈ l, (r m).toNat ≤ (p m).toNat + (q m).toNat) : cnt l r ≤ cnt l p + cnt l q := by
  induction l with
  | nil => exact Nat.le_refl _
  | cons x s ih =>
    have h1 := h x List.mem_cons_self
    have h2 := ih fun m hm => h m (List.mem_cons_of_mem _ hm)
    unfold cnt at *
    simp only [List.map_cons, List.sum_cons]
    omega
theorem cnt_lt {l : List Nat} {p q r : Nat → Bool} {g : Nat} (hg : g ∈ l) (h : ∀ m ∈ l, (r m).toNat ≤ (p m).toNat + (q m).toNat) (hs : (r g).toNat < (p g).toNat + (q g).toNat) : cnt l r < cnt l p + cnt l q := by
  induction l with
  | nil => cases hg
  | cons x s ih =>
    have h1 := h x List.mem_cons_self
    have h3 := fun m hm => h m (List.mem_cons_of_mem x hm)
    rcases List.mem_cons.mp hg with rfl | hg
    · have h2 := cnt_le h3
      unfold cnt at *
      simp only [List.map_cons, List.sum_cons]
      omega
    · have h2 := ih hg h3
      unfold cnt at *
      simp only [List.map_cons, List.sum_cons]
      omega
theorem cnt_one {l : List Nat} {g : Nat} (nd : l.Nodup) (hg : g ∈ l) : cnt l (fun m => m == g) = 1 := by
  induction l with
  | nil => cases hg
  | cons x s ih =>
    obtain ⟨h1, h2⟩ := List.nodup_cons.mp nd
    have z : ∀ {s : List Nat}, g ∉ s → cnt s (fun m => m == g) = 0 := fun {s} => by
      induction s with
      | nil => intro _; rfl
      | cons y s ih =>
        intro h
        have h1 : y ≠ g := fun e => h (by rw [e]; exact List.mem_cons_self)
        have h2 := ih fun m => h (List.mem_cons_of_mem _ m)
        unfold cnt at *
        simp only [List.map_cons, List.sum_cons]
        have : (y == g) = false := by simpa using h1
        simp [this]; simpa using h2
    rcases List.mem_cons.mp hg with rfl | hg
    · have := z h1
      unfold cnt at *
      simp only [List.map_cons, List.sum_cons]
      simp; simpa using this
    · have h3 := ih h2 hg
      have : (x == g) = false := by
        have : x ≠ g := fun e => h1 (by rw [e]; exact hg)
        simpa using this
      unfold cnt at *
      simp only [List.map_cons, List.sum_cons, this]
      simpa using h3
theorem cnt_pos {l : List Nat} {p : Nat → Bool} {g : Nat} (hg : g ∈ l) (h : p g = true) : 0 < cnt l p := by
  rw [← cnt_len]
  exact List.length_pos_of_mem (List.mem_filter.mpr ⟨hg, h⟩)
def dist (k : Nat) (a b : Nat → Bool) : Nat := cnt (List.range (2 ^ k)) fun m => a m && !b m
/-- the step: the lot g becomes long -/
def stp (k : Nat) (t : Nat → Bool) (g m : Nat) : Bool := if m = co k g then true else if m = g then false else t m
def maj (a b c : Nat → Bool) (m : Nat) : Bool := (a m && b m) || ((b m && c m) || (a m && c m))
theorem co_fact : ((List.range 7).all fun k => (List.range (2 ^ k)).all fun m => (List.range k).all fun i => m.testBit i || (List.range (2 ^ k)).all fun g => !(decide (m ||| 2 ^ i = co k g)) || (!g.testBit i && decide (co k m = g ||| 2 ^ i))) = true := by decide +kernel
section
variable {k : Nat} {a b c t : Nat → Bool} {g : Nat}
theorem dist_congr {a' b' : Nat → Bool} (ha : ∀ m, m < 2 ^ k → a m = a' m) (hb : ∀ m, m < 2 ^ k → b m = b' m) : dist k a b = dist k a' b' := by
  unfold dist cnt
  congr 1
  refine List.map_congr_left fun m hm => ?_
  show (a m && !b m).toNat = (a' m && !b' m).toNat
  rw [ha m (List.mem_range.mp hm), hb m (List.mem_range.mp hm)]
theorem Good.maj (ha : Good k a) (hb : Good k b) (hc : Good k c) : Good k (maj a b c) := by
  refine ⟨ha.k3, ha.k6, fun m hm => ?_, fun m i hm hi e => ?_⟩
  · unfold ME.maj
    rw [ha.dual m hm, hb.dual m hm, hc.dual m hm]
    cases a m <;> cases b m <;> cases c m <;> rfl
  · have h1 := ha.down m i hm hi
    have h2 := hb.down m i hm hi
    have h3 := hc.down m i hm hi
    unfold ME.maj at *
    revert e h1 h2 h3
    cases a m <;> cases b m <;> cases c m <;> cases a (m ||| 2 ^ i) <;> cases b (m ||| 2 ^ i) <;> cases c (m ||| 2 ^ i) <;> simp
theorem Good.stp (h : Good k t) (hg : g < 2 ^ k) (ht : topB k t g = true) : Good k (stp k t g) := by
  have k1 : 1 ≤ k := by have := h.k3; omega
  have ne := co_ne k1 hg
  obtain ⟨tg, tu⟩ := topB_iff.mp ht
  refine ⟨h.k3, h.k6, fun m hm => ?_, fun m i hm hi e => ?_⟩
  · unfold ME.stp
    by_cases q : m = g
    · subst q
      rw [if_pos rfl, if_neg (Ne.symm ne), if_pos rfl]; rfl
    · by_cases q2 : m = co k g
      · subst q2
        rw [co_co hg, if_neg (Ne.symm ne), if_pos rfl, if_pos rfl]; rfl
      · have h1 : co k m ≠ co k g := fun z => q (by rw [← co_co hm, z, co_co hg])
        have h2 : co k m ≠ g := fun z => q2 (by rw [← z, co_co hm])
        rw [if_neg h1, if_neg h2, if_neg q2, if_neg q]
        exact h.dual m hm
  · -- below a short lot
    have hor := or_lt hm hi
    unfold ME.stp at e ⊢
    by_cases q2 : m = co k g
    · rw [if_pos q2]
    · rw [if_neg q2]
      by_cases bit : m.testBit i = true
      · have : m ||| 2 ^ i = m := by
          apply Nat.eq_of_testBit_eq
          intro j
          rw [Nat.testBit_or, Nat.testBit_two_pow]
          by_cases w : i = j
          · subst w; simp [bit]
          · simp [w]
        rw [this, if_neg q2] at e
        exact e
      · have bit : m.testBit i = false := by simpa using bit
        by_cases q : m = g
        · -- g itself has nothing short above
          subst q
          have hu : m ||| 2 ^ i ∈ upL k m := mem_up.mpr ⟨i, by have := h.k6; omega, hi, bit, rfl⟩
          by_cases w : m ||| 2 ^ i = co k m
          · -- then the empty lot and all others
            exfalso
            have := all64b (p := fun m i => !decide (i < 6) || (List.range 7).all fun k => !(decide (3 ≤ k) && (decide (m < 2 ^ k) && (decide (m ||| 2 ^ i = co k m))))) (by decide +kernel) (lt64 h.k6 hm) (show i < 64 by have := h.k6; omega)
            have hi6 : i < 6 := by have := h.k6; omega
            simp only [decide_eq_true hi6, Bool.not_true, Bool.false_or] at this
            have := List.all_eq_true.mp this k (List.mem_range.mpr (by have := h.k6; omega))
            simp [h.k3, hm, w] at this
          · rw [if_neg w] at e
            by_cases w2 : m ||| 2 ^ i = m
            · exfalso
              have := congrArg (Nat.testBit · i) w2
              simp [bit] at this
            · rw [if_neg w2, tu _ hu] at e
              cases e
        · rw [if_neg q]
          by_cases w : m ||| 2 ^ i = co k g
          · -- m is g's complement without i: its complement is g with i, long
            have hi6 : i < 6 := by have := h.k6; omega
            have fact : g.testBit i = false ∧ co k m = g ||| 2 ^ i := by
              have := co_fact
              have := List.all_eq_true.mp this k (List.mem_range.mpr (by have := h.k6; omega))
              have := List.all_eq_true.mp (List.all_eq_true.mp this m (List.mem_range.mpr hm)) i (List.mem_range.mpr hi)
              rw [bit, Bool.false_or] at this
              have := List.all_eq_true.mp this g (List.mem_range.mpr hg)
              simpa [w] using this
            have hu : g ||| 2 ^ i ∈ upL k g := mem_up.mpr ⟨i, hi6, hi, fact.1, rfl⟩
            have h1 := h.dual (co k m) (co_lt hm)
            rw [co_co hm, fact.2, tu _ hu] at h1
            exact h1
          · rw [if_neg w] at e
            by_cases w2 : m ||| 2 ^ i = g
            · rw [if_pos w2] at e; cases e
            · rw [if_neg w2] at e
              exact h.down m i hm hi e
theorem stp_lt {m : Nat} (h : m = g) (ne : co k g ≠ g) : stp k t g m = false := by
  subst h
  unfold stp
  rw [if_neg (Ne.symm ne), if_pos rfl]
/-- a step nearer -/
theorem dist_stp (ha : Good k a) (hb : Good k b) (hg : g < 2 ^ k) (ht : a g = true) (ho : b g = false) : dist k (ME.stp k a g) b + 1 = dist k a b := by
  have k1 : 1 ≤ k := by have := ha.k3; omega
  have ne := co_ne k1 hg
  have h1 := cnt_one (List.nodup_range (n := 2 ^ k)) (List.mem_range.mpr hg)
  have := cnt_add (l := List.range (2 ^ k)) (p := fun m => ME.stp k a g m && !b m) (q := fun m => m == g) (r := fun m => a m && !b m) fun m hm => ?_
  · unfold dist
    rw [← this, h1]
  · unfold ME.stp
    by_cases q : m = co k g
    · subst q
      rw [if_pos rfl, hb.dual g hg, ho, ha.dual g hg, ht]
      have : (co k g == g) = false := by simpa using ne
      rw [this]; rfl
    · rw [if_neg q]
      by_cases w : m = g
      · subst w
        rw [if_pos rfl, ht, ho]
        simp
      · rw [if_neg w]
        have : (m == g) = false := by simpa using w
        rw [this]; simp
/-- two books that lie within one another are one -/
theorem good_eq (ha : Good k a) (hb : Good k b) (h : ∀ m, m < 2 ^ k → a m = true → b m = true) : ∀ m, m < 2 ^ k → a m = b m := fun m hm => by
  have h1 := h m hm
  have h2 := h (co k m) (co_lt hm)
  rw [ha.dual m hm, hb.dual m hm] at h2
  revert h1 h2
  cases a m <;> cases b m <;> simp
/-- some greatest short lot is long there -/
theorem some_step (ha : Good k a) (hb : Good k b) (h : ¬ ∀ m, m < 2 ^ k → a m = b m) : ∃ g, g ∈ grL k a ∧ b g = false := by
  have : ∃ m, m < 2 ^ k ∧ a m = true ∧ b m = false := by
    apply Classical.byContradiction
    intro no
    refine h (good_eq ha hb fun m hm e => ?_)
    cases q : b m with
    | true => rfl
    | false => exact absurd ⟨m, hm, e, q⟩ no
  obtain ⟨m, hm, e, q⟩ := this
  obtain ⟨g, g1, g2, g3⟩ := up_top ha.k6 hm e
  refine ⟨g, (mem_gr ha.k6).mpr ⟨g1, g2⟩, ?_⟩
  cases w : b g with
  | false => rfl
  | true => rw [hb.dn g1 g3 w] at q; cases q
theorem dist_zero (ha : Good k a) (hb : Good k b) : dist k a b = 0 ↔ ∀ m, m < 2 ^ k → a m = b m := by
  constructor
  · intro h
    refine good_eq ha hb fun m hm e => ?_
    cases q : b m with
    | true => rfl
    | false =>
      have := cnt_pos (p := fun m => a m && !b m) (List.mem_range.mpr hm) (by simp [e, q])
      unfold dist at h
      omega
  · intro h
    rw [dist_congr (a' := b) (b' := b) h fun _ _ => rfl]
    unfold dist
    rw [← cnt_len]
    rw [List.length_eq_zero_iff, List.filter_eq_nil_iff]
    intro m _
    cases b m <;> simp
theorem range_co : (List.range (2 ^ k)).map (co k) = (List.range (2 ^ k)).reverse := by
  apply List.ext_getElem?
  intro i
  by_cases h : i < 2 ^ k
  · rw [List.getElem?_map, List.getElem?_range h, List.getElem?_reverse (by simpa using h)]
    rw [List.length_range, List.getElem?_range (by omega)]
    rfl
  · rw [List.getElem?_eq_none (by simp; omega), List.getElem?_eq_none (by simp; omega)]
theorem dist_sym (ha : Good k a) (hb : Good k b) : dist k a b = dist k b a := by
  have h1 : dist k b a = cnt ((List.range (2 ^ k)).map (co k)) fun m => b m && !a m := by
    rw [range_co]
    unfold dist cnt
    rw [List.map_reverse, List.sum_reverse]
  rw [h1]
  unfold dist cnt
  rw [List.map_map]
  congr 1
  refine List.map_congr_left fun m hm => ?_
  show (a m && !b m).toNat = (b (co k m) && !a (co k m)).toNat
  rw [ha.dual m (List.mem_range.mp hm), hb.dual m (List.mem_range.mp hm)]
  cases a m <;> cases b m <;> rfl
theorem dist_maj (h : ∀ m, m < 2 ^ k → (a m = true → b m = true → t m = true) ∧ (a m = false → b m = false → t m = false)) : dist k a t + dist k t b = dist k a b := by
  refine cnt_add fun m hm => ?_
  obtain ⟨h1, h2⟩ := h m (List.mem_range.mp hm)
  revert h1 h2
  cases a m <;> cases b m <;> cases t m <;> simp
theorem dist_tri : dist k a b ≤ dist k a t + dist k t b := by
  refine cnt_le fun m hm => ?_
  cases a m <;> cases b m <;> cases t m <;> simp
theorem dist_lt (hg : g < 2 ^ k) (h1 : a g = true) (h2 : b g = true) (h3 : t g = false) : dist k a b < dist k a t + dist k t b := by
  refine cnt_lt (g := g) (List.mem_range.mpr hg) (fun m hm => ?_) ?_
  · cases a m <;> cases b m <;> cases t m <;> simp
  · simp [h1, h2, h3]
/-- a row of steps -/
def path (k : Nat) : (Nat → Bool) → List Nat → (Nat → Bool) → Prop
  | a, [], b => ∀ m, m < 2 ^ k → a m = b m
  | a, g :: l, b => g ∈ grL k a ∧ path k (ME.stp k a g) l b
theorem stp_congr {a' : Nat → Bool} (h : ∀ m, m < 2 ^ k → a m = a' m) : ∀ m, m < 2 ^ k → ME.stp k a g m = ME.stp k a' g m := fun m hm => by
  unfold ME.stp
  rw [h m hm]
theorem path_congr {l : List Nat} : ∀ {a a' : Nat → Bool}, (∀ m, m < 2 ^ k → a m = a' m) → path k a l b → path k a' l b := by
  induction l with
  | nil => exact fun h p m hm => by rw [← h m hm]; exact p m hm
  | cons g l ih => exact fun h p => ⟨by rw [← gr_congr h]; exact p.1, ih (stp_congr h) p.2⟩
theorem path_end {l : List Nat} : ∀ {a : Nat → Bool}, (∀ m, m < 2 ^ k → b m = c m) → path k a l b → path k a l c := by
  induction l with
  | nil => exact fun h p m hm => (p m hm).trans (h m hm)
  | cons g l ih => exact fun h p => ⟨p.1, ih h p.2⟩
theorem path_app {l l' : List Nat} : ∀ {a : Nat → Bool}, path k a l b → path k b l' c → path k a (l ++ l') c := by
  induction l with
  | nil => exact fun p q => path_congr (fun m hm => (p m hm).symm) q
  | cons g l ih => exact fun p q => ⟨p.1, ih p.2 q⟩
end
def wt (ls : List Nat) (m : Nat) : Nat := ((bits m).map fun i => ls.getD i 0).sum
def lenB (ls : List Nat) (m : Nat) : Bool := decide (2 * wt ls m < ls.sum)
theorem sum_filter {l : List Nat} {p : Nat → Bool} {f : Nat → Nat} : ((l.filter p).map f).sum = (l.map fun i => if p i = true then f i else 0).sum := by
  induction l with
  | nil => rfl
  | cons x r ih =>
    rw [List.filter_cons, List.map_cons, List.sum_cons, ← ih]
    by_cases q : p x = true
    · rw [if_pos q, if_pos q, List.map_cons, List.sum_cons]
    · rw [if_neg q, if_neg q, Nat.zero_add]
theorem sum_add {l : List Nat} {f g h : Nat → Nat} (e : ∀ i ∈ l, f i + g i = h i) : (l.map f).sum + (l.map g).sum = (l.map h).sum := by
  induction l with
  | nil => rfl
  | cons x r ih =>
    have h1 := e x List.mem_cons_self
    have h2 := ih fun i hi => e i (List.mem_cons_of_mem _ hi)
    simp only [List.map_cons, List.sum_cons]
    omega
theorem sum_le {l : List Nat} {f g : Nat → Nat} (e : ∀ i ∈ l, f i ≤ g i) : (l.map f).sum ≤ (l.map g).sum := by
  induction l with
  | nil => exact Nat.le_refl _
  | cons x r ih =>
    have h1 := e x List.mem_cons_self
    have h2 := ih fun i hi => e i (List.mem_cons_of_mem _ hi)
    simp only [List.map_cons, List.sum_cons]
    omega
theorem sum_getD {ls : List Nat} (h : ls.length ≤ 6) : ((List.range 6).map fun i => ls.getD i 0).sum = ls.sum := by
  match ls, h with
  | [], _ => rfl
  | [a], _ => simp [List.range, List.range.loop]
  | [a, b], _ => simp [List.range, List.range.loop]
  | [a, b, c], _ => simp [List.range, List.range.loop]
  | [a, b, c, d], _ => simp [List.range, List.range.loop]
  | [a, b, c, d, e], _ => simp [List.range, List.range.loop]
  | [a, b, c, d, e, f], _ => simp [List.range, List.range.loop]
  | _ :: _ :: _ :: _ :: _ :: _ :: _ :: _, h => simp only [List.length_cons] at h; omega
theorem co_bit {k m i : Nat} (hk : k ≤ 6) (hm : m < 2 ^ k) (hi : i < k) : (co k m).testBit i = !m.testBit i := by
  have : ((List.range 7).all fun k => (List.range (2 ^ k)).all fun m => (List.range k).all fun i => (co k m).testBit i == !m.testBit i) = true := by decide +kernel
  have := List.all_eq_true.mp (List.all_eq_true.mp (List.all_eq_true.mp this k (List.mem_range.mpr (by omega))) m (List.mem_range.mpr hm)) i (List.mem_range.mpr hi)
  simpa using this
theorem wt_co {k m : Nat} {ls : List Nat} (hk : k ≤ 6) (hl : ls.length = k) (hm : m < 2 ^ k) : wt ls m + wt ls (co k m) = ls.sum := by
  unfold wt bits
  rw [sum_filter, sum_filter, ← sum_getD (ls := ls) (by omega)]
  refine sum_add fun i hi => ?_
  by_cases q : i < k
  · rw [co_bit hk hm q]
    cases m.testBit i <;> simp
  · have : ls.getD i 0 = 0 := by rw [List.getD_eq_getElem?_getD, List.getElem?_eq_none (by omega)]; rfl
    rw [this]; simp
theorem wt_or {m i : Nat} {ls : List Nat} : wt ls m ≤ wt ls (m ||| 2 ^ i) := by
  unfold wt bits
  rw [sum_filter, sum_filter]
  refine sum_le fun j _ => ?_
  cases e : m.testBit j with
  | false => simp
  | true => simp [Nat.testBit_or, e]
theorem good_len {k : Nat} {ls : List Nat} (k3 : 3 ≤ k) (k6 : k ≤ 6) (hl : ls.length = k) (odd : ls.sum % 2 = 1) : Good k (lenB ls) := by
  refine ⟨k3, k6, fun m hm => ?_, fun m i hm hi e => ?_⟩
  · have := wt_co k6 hl hm
    unfold lenB
    by_cases q : 2 * wt ls m < ls.sum
    · rw [decide_eq_true q, decide_eq_false (by omega)]; rfl
    · rw [decide_eq_false q, decide_eq_true (by omega)]; rfl
  · unfold lenB at *
    have := wt_or (ls := ls) (m := m) (i := i)
    have e := of_decide_eq_true e
    exact decide_eq_true (by omega)
end ME

set_option linter.all false
set_option maxRecDepth 100000
set_option maxHeartbeats 2000000
namespace ME
def mkB (l : List Nat) : Nat := l.foldr (fun i m => m ||| 2 ^ i) 0
theorem mkB_bit {l : List Nat} {i : Nat} : (mkB l).testBit i = decide (i ∈ l) := by
  induction l with
  | nil => simp [mkB]
  | cons x r ih =>
    show (mkB r ||| 2 ^ x).testBit i = _
    rw [Nat.testBit_or, ih, Nat.testBit_two_pow]
    by_cases q : x = i
    · subst q; simp
    · have : ¬ i = x := fun e => q e.symm
      simp [q, this]
/-- a lot's image -/
def im (q : List Nat) (m : Nat) : Nat := mkB ((bits m).map fun i => q.getD i 0)
theorem im_bit {q : List Nat} {m i : Nat} : (im q m).testBit i = true ↔ ∃ j ∈ bits m, q.getD j 0 = i := by
  unfold im
  rw [mkB_bit, decide_eq_true_eq, List.mem_map]
/-- an order and its places -/
structure OrdB (k : Nat) (o p : List Nat) : Prop where
  ol : ∀ i, i < k → o.getD i 0 < k
  pl : ∀ i, i < k → p.getD i 0 < k
  op : ∀ i, i < k → o.getD (p.getD i 0) 0 = i
  po : ∀ i, i < k → p.getD (o.getD i 0) 0 = i
theorem OrdB.sw {k : Nat} {o p : List Nat} (h : OrdB k o p) : OrdB k p o := ⟨h.pl, h.ol, h.po, h.op⟩
theorem bits_k {k m i : Nat} (hm : m < 2 ^ k) (h : i ∈ bits m) : i < k := bit_lt hm (bits_mem.mp h).2
theorem im_lt {k m : Nat} {o p : List Nat} (h : OrdB k o p) (hm : m < 2 ^ k) : im o m < 2 ^ k := by
  apply Nat.lt_pow_two_of_testBit
  intro i hi
  cases e : (im o m).testBit i with
  | false => rfl
  | true =>
    obtain ⟨j, hj, rfl⟩ := im_bit.mp e
    have := h.ol j (bits_k hm hj)
    omega
theorem bits_eq {k a b : Nat} (ha : a < 2 ^ k) (hb : b < 2 ^ k) (h : ∀ i, i < k → a.testBit i = b.testBit i) : a = b := by
  apply Nat.eq_of_testBit_eq
  intro i
  by_cases q : i < k
  · exact h i q
  · have hp : 2 ^ k ≤ 2 ^ i := Nat.pow_le_pow_right (by omega) (by omega)
    rw [Nat.testBit_lt_two_pow (by omega), Nat.testBit_lt_two_pow (by omega)]
section
variable {k : Nat} {o p : List Nat} (hk : k ≤ 6) (h : OrdB k o p)
include hk h
theorem im_bit' {m i : Nat} (hm : m < 2 ^ k) (hi : i < k) : (im o m).testBit (o.getD i 0) = m.testBit i := by
  rw [Bool.eq_iff_iff, im_bit]
  constructor
  · rintro ⟨j, hj, e⟩
    have hjk := bits_k hm hj
    have : j = i := by rw [← h.po j hjk, e, h.po i hi]
    rw [← this]; exact (bits_mem.mp hj).2
  · intro e
    exact ⟨i, bits_mem.mpr ⟨by omega, e⟩, rfl⟩
theorem im_im {m : Nat} (hm : m < 2 ^ k) : im o (im p m) = m := by
  have h1 := im_lt h.sw hm
  refine bits_eq (im_lt h h1) hm fun i hi => ?_
  have e1 := im_bit' hk h (m := im p m) (i := p.getD i 0) h1 (h.pl i hi)
  rw [h.op i hi] at e1
  rw [e1]
  have e2 := im_bit' hk h.sw (m := m) (i := i) hm hi
  exact e2
theorem im_perm {m : Nat} (hm : m < 2 ^ k) : ((bits m).map fun i => o.getD i 0).Perm (bits (im o m)) := by
  have nd : ((bits m).map fun i => o.getD i 0).Nodup := by
    refine List.pairwise_map.mpr ?_
    have := bits_nodup (m := m)
    refine (List.Pairwise.and_mem.mp this).imp fun {a b} hab => ?_
    obtain ⟨ha, hb, ne⟩ := hab
    intro e
    exact ne (by rw [← h.po a (bits_k hm ha), e, h.po b (bits_k hm hb)])
  refine (List.perm_ext_iff_of_nodup nd bits_nodup).mpr fun i => ?_
  rw [bits_mem, im_bit, List.mem_map]
  constructor
  · rintro ⟨j, hj, rfl⟩
    have := h.ol j (bits_k hm hj)
    exact ⟨by omega, j, hj, rfl⟩
  · rintro ⟨_, j, hj, e⟩
    exact ⟨j, hj, e⟩
theorem im_co {m : Nat} (hm : m < 2 ^ k) : im o (co k m) = co k (im o m) := by
  refine bits_eq (im_lt h (co_lt hm)) (co_lt (im_lt h hm)) fun i hi => ?_
  have e := im_bit' hk h (m := co k m) (i := p.getD i 0) (co_lt hm) (h.pl i hi)
  have e2 := im_bit' hk h (m := m) (i := p.getD i 0) hm (h.pl i hi)
  rw [h.op i hi] at e e2
  rw [e, co_bit hk hm (h.pl i hi), co_bit hk (im_lt h hm) hi, e2]
theorem im_or {m i : Nat} (hm : m < 2 ^ k) (hi : i < k) : im o (m ||| 2 ^ i) = im o m ||| 2 ^ (o.getD i 0) := by
  have hoi := h.ol i hi
  refine bits_eq (im_lt h (or_lt hm hi)) (or_lt (im_lt h hm) hoi) fun j hj => ?_
  have e := im_bit' hk h (m := m ||| 2 ^ i) (i := p.getD j 0) (or_lt hm hi) (h.pl j hj)
  have e2 := im_bit' hk h (m := m) (i := p.getD j 0) hm (h.pl j hj)
  rw [h.op j hj] at e e2
  rw [e, Nat.testBit_or, Nat.testBit_or, e2, Nat.testBit_two_pow, Nat.testBit_two_pow]
  congr 1
  rw [decide_eq_decide]
  constructor
  · rintro rfl; exact h.op j hj
  · rintro rfl; exact (h.po i hi).symm
theorem good_im {t : Nat → Bool} (g : Good k t) : Good k fun m => t (im o m) := by
  refine ⟨g.k3, g.k6, fun m hm => ?_, fun m i hm hi e => ?_⟩
  · show t (im o (co k m)) = !t (im o m)
    rw [im_co hk h hm]
    exact g.dual _ (im_lt h hm)
  · have e : t (im o (m ||| 2 ^ i)) = true := e
    rw [im_or hk h hm hi] at e
    exact g.down _ _ (im_lt h hm) (h.ol i hi) e
/-- nothing short lies above but itself -/
theorem top_iff {t : Nat → Bool} {m : Nat} (hm : m < 2 ^ k) : topB k (fun m => t (im o m)) m = true ↔ topB k t (im o m) = true := by
  rw [topB_iff, topB_iff]
  constructor
  · rintro ⟨h1, h2⟩
    refine ⟨h1, fun x hx => ?_⟩
    obtain ⟨i, i1, i2, i3, rfl⟩ := mem_up.mp hx
    have hpi := h.pl i i2
    have e := im_or hk h (m := m) (i := p.getD i 0) hm hpi
    rw [h.op i i2] at e
    have := h2 (m ||| 2 ^ (p.getD i 0)) (mem_up.mpr ⟨_, by omega, hpi, ?_, rfl⟩)
    · have this : t (im o (m ||| 2 ^ (p.getD i 0))) = false := this
      rw [e] at this; exact this
    · have := im_bit' hk h (m := m) (i := p.getD i 0) hm hpi
      rw [h.op i i2, i3] at this
      exact this.symm
  · rintro ⟨h1, h2⟩
    refine ⟨h1, fun x hx => ?_⟩
    obtain ⟨i, i1, i2, i3, rfl⟩ := mem_up.mp hx
    show t (im o (m ||| 2 ^ i)) = false
    rw [im_or hk h hm i2]
    refine h2 _ (mem_up.mpr ⟨_, by have := h.ol i i2; omega, h.ol i i2, ?_, rfl⟩)
    rw [im_bit' hk h hm i2, i3]
theorem gr_im {t : Nat → Bool} : ((grL k t).map (im p)).Perm (grL k fun m => t (im o m)) := by
  have nd : ((grL k t).map (im p)).Nodup := by
    refine List.pairwise_map.mpr ?_
    refine (List.Pairwise.and_mem.mp (gr_nodup (k := k) (t := t))).imp fun {a b} hab => ?_
    obtain ⟨ha, hb, ne⟩ := hab
    intro e
    refine ne ?_
    rw [← im_im hk h ((mem_gr hk).mp ha).1, e, im_im hk h ((mem_gr hk).mp hb).1]
  refine (List.perm_ext_iff_of_nodup nd gr_nodup).mpr fun m => ?_
  rw [List.mem_map, mem_gr hk]
  constructor
  · rintro ⟨g, hg, rfl⟩
    obtain ⟨g1, g2⟩ := (mem_gr hk).mp hg
    refine ⟨im_lt h.sw g1, (top_iff hk h (im_lt h.sw g1)).mpr ?_⟩
    rw [im_im hk h g1]; exact g2
  · rintro ⟨hm, ht⟩
    exact ⟨im o m, (mem_gr hk).mpr ⟨im_lt h hm, (top_iff hk h hm).mp ht⟩, im_im hk h.sw hm⟩
end
/-- an order told by a list -/
theorem ord_of {k : Nat} {o : List Nat} (h : o.Perm (List.range k)) : OrdB k o ((List.range k).map fun i => o.idxOf i) := by
  have hl : o.length = k := by rw [h.length_eq, List.length_range]
  have nd : o.Nodup := List.nodup_range.perm h.symm
  have mem : ∀ i, i < k → i ∈ o := fun i hi => h.mem_iff.mpr (List.mem_range.mpr hi)
  have g1 : ∀ i, i < k → o.getD i 0 < k := fun i hi => by
    rw [List.getD_eq_getElem?_getD, List.getElem?_eq_getElem (by omega)]
    exact List.mem_range.mp (h.mem_iff.mp (List.getElem_mem (by omega)))
  have g2 : ∀ i, i < k → ((List.range k).map fun i => o.idxOf i).getD i 0 = o.idxOf i := fun i hi => by
    rw [List.getD_eq_getElem?_getD, List.getElem?_map, List.getElem?_range hi]
    rfl
  have g3 : ∀ i, i < k → o.idxOf i < k := fun i hi => by
    have := List.idxOf_lt_length_of_mem (mem i hi)
    omega
  refine ⟨g1, fun i hi => by rw [g2 i hi]; exact g3 i hi, fun i hi => ?_, fun i hi => ?_⟩
  · rw [g2 i hi, List.getD_eq_getElem?_getD, List.getElem?_eq_getElem (by have := g3 i hi; omega)]
    exact List.getElem_idxOf _
  · rw [g2 _ (g1 i hi), List.getD_eq_getElem?_getD, List.getElem?_eq_getElem (by omega)]
    exact nd.idxOf_getElem i (by omega)
end ME

set_option maxRecDepth 100000
namespace I81
open PySem Z
def hd__law_heard : HE := (.ite [6, 7] (.tup [(.ite [6] (.str (Str.ofString "book")) (.str (Str.ofString "lot"))), (.fld 9)]) (.ite [5] (.tup [(.str (Str.ofString "number")), (.fld 9)]) (.ite [9, 10] (.tup [(.ite [9] (.str (Str.ofString "bar")) (.str (Str.ofString "twice"))), .no]) (.ite [2] (.tup [(.str (Str.ofString "misfit")), (.fld 9)]) (.tup [(.str (Str.ofString "other")), .non])))))
/-- law -/
def f0 : FunI := ⟨13, 1, [(.asg 1 false (.call 1 [(.var 0)] [.inl 0])), (.forS (.name 2) (.rng1 (.const (.int 2))) [(.asg 3 false (.call 2 [(.var 1), (.disp [(.const (.int 5)), (.const (.int 4)), (.const (.int 6)), (.const (.int 3)), (.const (.int 5))])] [.inl 0, .inl 1])), (.asg 5 true (.comp (.call 3 [(.var 1), (.var 3)] [.inl 0, .inl 1]) (.name 4) (.rng1 (.const (.int 3))) none [4])), (.ifs (.val (.cmp .eq (.call 4 [(.var 1), (.const (.int 5))] [.inl 0, .inl 1]) (.const (.int 0)))) [(.setIx (.var 5) (.call 4 [(.var 1), (.const (.int 3))] [.inl 0, .inl 1]) (.ix (.var 5) (.const (.int 0))))] []), (.par [(7, false), (8, false)] [(.call 5 [(.var 3), (.var 5)] [.inl 0, .inl 1]), (.comp (.call 6 [(.var 1), (.var 3), (.var 6)] [.inl 0, .inl 1, .inl 2]) (.name 6) (.val (.var 5)) none [6])]), (.asg 9 false (.call 7 [(.ix (.var 8) (.const (.int 0))), (.ix (.var 8) (.const (.int 1))), (.ix (.var 8) (.const (.int 2)))] [.inl 0, .inl 1, .inl 2])), (.ifs (.or_ (.not_ (.val (.isi (.var 9) [.own 0]))) (.or_ (.val (.cmp .ne (.meth 0 (.var 9) []) (.bi .tuple (.var 7)))) (.val (.cmp .ne (.var 9) (.call 6 [(.var 1), (.var 3), (.var 7)] [.inl 0, .inl 1, .inl 2]))))) [(.ret false (.const (.bl false)))] []), (.ifs (.or_ (.val (.cmp .ne (.call 7 [(.ix (.var 8) (.const (.int 2))), (.ix (.var 8) (.const (.int 0))), (.ix (.var 8) (.const (.int 1)))] [.inl 0, .inl 1, .inl 2]) (.var 9))) (.val (.cmp .ne (.call 7 [(.ix (.var 8) (.const (.int 1))), (.ix (.var 8) (.const (.int 0))), (.ix (.var 8) (.const (.int 2)))] [.inl 0, .inl 1, .inl 2]) (.var 9)))) [(.ret false (.const (.bl false)))] []), (.ifs (.or_ (.val (.cmp .ne (.call 7 [(.ix (.var 8) (.const (.int 0))), (.ix (.var 8) (.const (.int 1))), (.ix (.var 8) (.const (.int 0)))] [.inl 0, .inl 1, .inl 2]) (.ix (.var 8) (.const (.int 0))))) (.val (.cmp .ne (.call 7 [(.var 9), (.ix (.var 8) (.const (.int 2))), (.var 9)] [.inl 0, .inl 1, .inl 2]) (.var 9)))) [(.ret false (.const (.bl false)))] []), (.ifs (.or_ (.val (.cmp .ne (.call 9 [(.ix (.var 5) (.const (.int 0))), (.var 7)] [.inl 0, .inl 1]) (.bi .len (.fld (.call 10 [(.ix (.var 8) (.const (.int 0))), (.var 9)] [.inl 0, .inl 1]) 1)))) (.not_ (.val (.call 8 [(.var 8), (.var 9)] [.inl 0, .inl 1])))) [(.ret false (.const (.bl false)))] []), (.asg 10 false (.call 11 [(.var 1), (.bi .list (.range (.var 3)))] [.inl 0, .inl 1])), (.asg 12 false (.comp (.meth 2 (.var 11) [(.var 10)]) (.name 11) (.val (.var 8)) none [11])), (.ifs (.or_ (.val (.cmp .ne (.call 7 [(.ix (.var 12) (.const (.int 0))), (.ix (.var 12) (.const (.int 1))), (.ix (.var 12) (.const (.int 2)))] [.inl 0, .inl 1, .inl 2]) (.meth 2 (.var 9) [(.var 10)]))) (.not_ (.val (.call 13 [(.var 1), (.var 8), (.var 9)] [.inl 0, .inl 1, .inl 2])))) [(.ret false (.const (.bl false)))] []), (.ifs (.not_ (.val (.call 14 [(.var 1), (.var 3), (.ix (.var 8) (.const (.int 0)))] [.inl 0, .inl 1, .inl 2]))) [(.ret false (.const (.bl false)))] [])]), (.ret false (.const (.bl true)))]⟩
/-- _law_hat -/
def f1 : FunI := ⟨2, 1, [(.ret true (.disp [(.comp (.bi .int (.var 1)) (.name 1) (.val (.sl (.var 0) none (some (.const (.int 60))))) none [1]), (.const (.int 0)), (.const (.int 0))]))]⟩
/-- _law_one -/
def f2 : FunI := ⟨2, 2, [(.ret false (.ix (.var 1) (.call 4 [(.var 0), (.bi .len (.var 1))] [.inl 0, .inl 1])))]⟩
/-- _law_shorts -/
def f3 : FunI := ⟨4, 2, [(.asg 2 false (.call 15 [(.call 16 [(.var 0), (.var 1)] [.inl 0, .inl 1])] [.inl 0])), (.forS (.name 3) (.rng1 (.call 2 [(.var 0), (.disp [(.const (.int 0)), (.const (.int 3)), (.const (.int 1)), (.const (.int 8)), (.const (.int 5))])] [.inl 0, .inl 1])) [(.asg 2 false (.call 17 [(.var 2), (.call 2 [(.var 0), (.call 18 [(.var 2)] [.inl 0])] [.inl 0, .inl 1]), (.var 1)] [.inl 0, .inl 1, .inl 2]))]), (.ret false (.var 2))]⟩
/-- _law_lot -/
def f4 : FunI := ⟨7, 2, [(.ifs (.val (.cmp .gt (.ix (.var 0) (.const (.int 2))) (.const (.int 0)))) [(.asg 2 false (.bin .mod (.bi .int (.ix (.var 0) (.const (.int 2)))) (.var 1))), (.setIx (.var 0) (.const (.int 2)) (.bin .fdiv (.bi .int (.ix (.var 0) (.const (.int 2)))) (.var 1))), (.ret false (.var 2))] []), (.asg 3 false (.ix (.var 0) (.const (.int 1)))), (.setIx (.var 0) (.const (.int 1)) (.bin .add (.var 3) (.const (.int 1)))), (.asg 4 false (.bin .add (.bin .mul (.const (.int 86011)) (.var 3)) (.const (.int 10069)))), (.ifs (.val (.cmp .ne (.ix (.var 0) (.const (.int 0))) (.disp []))) [(.asg 4 false (.ix (.ix (.var 0) (.const (.int 0))) (.bin .mod (.bi .int (.var 3)) (.bi .len (.ix (.var 0) (.const (.int 0)))))))] []), (.ifs (.and_ (.val (.cmp .lt (.var 3) (.bi .len (.ix (.var 0) (.const (.int 0)))))) (.val (.cmp .ge (.bi .abs (.var 4)) (.bin .pow (.const (.int 10)) (.const (.int 18)))))) [(.asg 5 false (.bin .sub (.bi .abs (.var 4)) (.bin .pow (.const (.int 10)) (.const (.int 18))))), (.setIx (.var 0) (.const (.int 2)) (.bin .fdiv (.bi .int (.var 5)) (.var 1))), (.ret false (.bin .mod (.bi .int (.var 5)) (.var 1)))] []), (.asg 6 false (.bin .mod (.bi .int (.bin .pow (.bin .add (.bin .add (.bin .mod (.bi .int (.var 4)) (.const (.int 2147483587))) (.bin .mul (.const (.int 90023)) (.var 3))) (.const (.int 10069))) (.const (.int 5)))) (.const (.int 2147483647)))), (.asg 6 false (.bin .mod (.bi .int (.bin .pow (.bin .add (.bin .add (.bin .mul (.var 6) (.bin .add (.bin .mul (.const (.int 2)) (.var 3)) (.const (.int 3011)))) (.bin .mul (.bin .mul (.const (.int 86011)) (.var 3)) (.var 3))) (.const (.int 90023))) (.const (.int 3)))) (.const (.int 2147483549)))), (.ret false (.bin .mod (.bi .int (.bin .fdiv (.var 6) (.const (.int 32)))) (.var 1)))]⟩
/-- _law_counted -/
def f5 : FunI := ⟨4, 2, [(.ret false (.comp (.var 2) (.name 2) (.val (.call 19 [(.var 0)] [.inl 0])) (some (.val (.cmp .gt (.bi .len (.comp (.var 3) (.name 3) (.val (.var 1)) (some (.val (.cmp .in_ (.var 2) (.var 3)))) [3])) (.const (.int 1))))) [2]))]⟩
/-- _law_book -/
def f6 : FunI := ⟨5, 3, [(.asg 4 false (.comp (.call 11 [(.var 0), (.var 3)] [.inl 0, .inl 1]) (.name 3) (.val (.call 11 [(.var 0), (.call 18 [(.var 2)] [.inl 0])] [.inl 0, .inl 1])) none [3])), (.ret false (.make 0 [(.var 1), (.ite (.val (.cmp .eq (.call 4 [(.var 0), (.const (.int 2))] [.inl 0, .inl 1]) (.const (.int 0)))) (.var 4) (.bi .tuple (.comp (.bi .tuple (.var 3)) (.name 3) (.val (.var 4)) none [3])))] [.inl 0, .inl 1]))]⟩
/-- majority -/
def f7 : FunI := ⟨5, 3, [(.expr (.call 21 [(.var 0), (.const (.str (Str.ofString "one")))] [.inl 0, .inl 1])), (.expr (.call 21 [(.var 1), (.const (.str (Str.ofString "other")))] [.inl 0, .inl 1])), (.expr (.call 21 [(.var 2), (.const (.str (Str.ofString "third")))] [.inl 0, .inl 1])), (.ifs (.not_ (.val (.chain .eq .eq (.fld (.var 0) 3) (.fld (.var 1) 3) (.fld (.var 2) 3)))) [(.rais 2 [(.const (.str (Str.ofString "bars")))])] []), (.asg 4 false (.comp (.cmp .gt (.bi .sum (.var 3)) (.const (.int 1))) (.name 3) (.zip3 (.fld (.var 0) 4) (.fld (.var 1) 4) (.fld (.var 2) 4)) none [3])), (.ret false (.make 0 [(.fld (.var 0) 3), (.call 22 [(.var 4)] [.inl 0])] [.inl 0, .inl 1]))]⟩
/-- _law_passed_right -/
def f8 : FunI := ⟨6, 2, [(.forS (.tup [2, 3]) (.val (.tupl [(.tupl [(.const (.int 0)), (.const (.int 1))]), (.tupl [(.const (.int 1)), (.const (.int 2))]), (.tupl [(.const (.int 0)), (.const (.int 2))])])) [(.par [(4, false), (5, false)] [(.fld (.call 10 [(.ix (.var 0) (.var 2)), (.var 1)] [.inl 0, .inl 1]) 1), (.fld (.call 10 [(.var 1), (.ix (.var 0) (.var 3))] [.inl 0, .inl 1]) 1)]), (.ifs (.val (.cmp .ne (.bin .add (.bi .len (.var 4)) (.bi .len (.var 5))) (.bi .len (.fld (.call 10 [(.ix (.var 0) (.var 2)), (.ix (.var 0) (.var 3))] [.inl 0, .inl 1]) 1)))) [(.ret false (.const (.bl false)))] []), (.ifs (.val (.cmp .isnt (.call 23 [(.ix (.var 0) (.var 2)), (.ix (.var 0) (.var 3)), (.make 4 [(.bin .add (.var 4) (.var 5))] [.inl 0])] [.inl 0, .inl 1, .inl 2]) (.const (.bl true)))) [(.ret false (.const (.bl false)))] [])]), (.ret false (.const (.bl true)))]⟩
/-- _law_apart -/
def f9 : FunI := ⟨3, 2, [(.ret false (.bi .len (.comp (.var 2) (.name 2) (.val (.var 0)) (some (.val (.cmp .nin (.var 2) (.var 1)))) [2])))]⟩
/-- steps_between -/
def f10 : FunI := ⟨5, 2, [(.expr (.call 25 [(.var 0), (.var 1)] [.inl 0, .inl 1])), (.par [(2, false), (3, true)] [(.var 0), (.disp [])]), (.whil (.val (.cmp .ne (.var 2) (.var 1))) [(.expr (.lm .append (.var 3) [(.ix (.comp (.var 4) (.name 4) (.val (.fld (.var 2) 5)) (some (.not_ (.val (.ix (.fld (.var 1) 4) (.call 26 [(.var 4)] [.inl 0]))))) [4]) (.const (.int 0)))])), (.asg 2 false (.call 27 [(.var 2), (.ix (.var 3) (.neg (.const (.int 1))))] [.inl 0, .inl 1]))]), (.ret false (.make 4 [(.var 3)] [.inl 0]))]⟩
/-- _law_mixed -/
def f11 : FunI := ⟨4, 2, [(.asg 2 true (.disp [])), (.forS (.name 3) (.val (.var 1)) [(.expr (.lm .insert (.var 2) [(.call 4 [(.var 0), (.bin .add (.bi .len (.var 2)) (.const (.int 1)))] [.inl 0, .inl 1]), (.var 3)]))]), (.ret false (.var 2))]⟩
/-- Book.in_order -/
def f12 : FunI := ⟨5, 2, [(.ifs (.or_ (.not_ (.val (.call 28 [(.var 1)] [.inl 0]))) (.val (.cmp .ne (.bi .sorted (.var 1)) (.bi .list (.range (.fld (.var 0) 3)))))) [(.rais 5 [(.const (.str (Str.ofString "order")))])] []), (.asg 3 false (.comp (.pm .index (.bi .list (.var 1)) [(.var 2)]) (.name 2) (.rng1 (.fld (.var 0) 3)) none [2])), (.ret false (.make 0 [(.fld (.var 0) 3), (.comp (.bi .sorted (.comp (.ix (.var 3) (.var 2)) (.name 2) (.val (.var 4)) none [2])) (.name 4) (.val (.fld (.var 0) 5)) none [4])] [.inl 0, .inl 1]))]⟩
/-- _law_alone_right -/
def f13 : FunI := ⟨9, 3, [(.asg 3 false (.call 2 [(.var 0), (.call 29 [(.var 2)] [.inl 0])] [.inl 0, .inl 1])), (.asg 5 false (.comp (.bi .len (.fld (.call 10 [(.var 4), (.var 3)] [.inl 0, .inl 1]) 1)) (.name 4) (.val (.var 1)) none [4])), (.asg 8 false (.comp (.bi .len (.fld (.call 10 [(.ix (.var 1) (.var 6)), (.ix (.var 1) (.var 7))] [.inl 0, .inl 1]) 1)) (.tup [6, 7]) (.val (.tupl [(.tupl [(.const (.int 0)), (.const (.int 1))]), (.tupl [(.const (.int 1)), (.const (.int 2))]), (.tupl [(.const (.int 0)), (.const (.int 2))])])) none [6, 7])), (.ret false (.cmp .ne (.var 8) (.disp [(.bin .add (.ix (.var 5) (.const (.int 0))) (.ix (.var 5) (.const (.int 1)))), (.bin .add (.ix (.var 5) (.const (.int 1))) (.ix (.var 5) (.const (.int 2)))), (.bin .add (.ix (.var 5) (.const (.int 0))) (.ix (.var 5) (.const (.int 2))))])))]⟩
/-- _law_refused_right -/
def f14 : FunI := ⟨6, 3, [(.asg 3 false (.call 2 [(.var 0), (.disp [(.const .non), (.const (.int 5)), (.str_ 6 (.var 2)), (.fld (.var 2) 5), (.disp [(.var 2)]), (.const (.bl true))])] [.inl 0, .inl 1])), (.asg 4 false (.ite (.val (.cmp .gt (.var 1) (.const (.int 3)))) (.make 0 [(.const (.int 3)), (.disp [(.disp [(.const (.int 0))]), (.disp [(.const (.int 1))]), (.disp [(.const (.int 2))])])] [.inl 0, .inl 1]) (.make 0 [(.const (.int 4)), (.disp [(.disp [(.const (.int 0)), (.const (.int 1))]), (.disp [(.const (.int 0)), (.const (.int 2))]), (.disp [(.const (.int 0)), (.const (.int 3))])])] [.inl 0, .inl 1]))), (.asg 5 true (.disp [(.heard (.call 7 [(.var 3), (.var 3), (.var 3)] [.inl 0, .inl 1, .inl 2]) 1 hd__law_heard)])), (.expr (.lm .append (.var 5) [(.heard (.call 7 [(.var 4), (.var 3), (.var 3)] [.inl 0, .inl 1, .inl 2]) 1 hd__law_heard)])), (.expr (.lm .append (.var 5) [(.heard (.call 7 [(.var 2), (.var 4), (.var 3)] [.inl 0, .inl 1, .inl 2]) 1 hd__law_heard)])), (.expr (.lm .append (.var 5) [(.heard (.call 7 [(.var 2), (.var 2), (.var 4)] [.inl 0, .inl 1, .inl 2]) 1 hd__law_heard)])), (.expr (.lm .append (.var 5) [(.heard (.call 7 [(.var 2), (.var 4), (.var 2)] [.inl 0, .inl 1, .inl 2]) 1 hd__law_heard)])), (.expr (.lm .append (.var 5) [(.heard (.call 7 [(.var 4), (.var 2), (.var 2)] [.inl 0, .inl 1, .inl 2]) 1 hd__law_heard)])), (.ret false (.cmp .eq (.var 5) (.bin .add (.disp [(.tupl [(.const (.str (Str.ofString "book"))), (.const (.str (Str.ofString "one")))]), (.tupl [(.const (.str (Str.ofString "book"))), (.const (.str (Str.ofString "other")))]), (.tupl [(.const (.str (Str.ofString "book"))), (.const (.str (Str.ofString "third")))])]) (.bin .mul (.disp [(.tupl [(.const (.str (Str.ofString "misfit"))), (.const (.str (Str.ofString "bars")))])]) (.const (.int 3))))))]⟩
/-- _law_of_lengths -/
def f15 : FunI := ⟨4, 1, [(.asg 1 false (.bi .sum (.var 0))), (.ret false (.comp (.var 2) (.name 2) (.val (.call 19 [(.bi .len (.var 0))] [.inl 0])) (some (.val (.cmp .lt (.bin .mul (.const (.int 2)) (.bi .sum (.comp (.ix (.var 0) (.var 3)) (.name 3) (.val (.var 2)) none [3]))) (.var 1)))) [2]))]⟩
/-- _law_lengths -/
def f16 : FunI := ⟨5, 2, [(.asg 2 false (.call 2 [(.var 0), (.disp [(.const (.int 2)), (.const (.int 3)), (.const (.int 5)), (.const (.int 9))])] [.inl 0, .inl 1])), (.asg 4 true (.comp (.bin .add (.const (.int 1)) (.call 4 [(.var 0), (.var 2)] [.inl 0, .inl 1])) (.name 3) (.rng1 (.var 1)) none [3])), (.ifs (.val (.cmp .eq (.bin .mod (.bi .int (.bi .sum (.var 4))) (.const (.int 2))) (.const (.int 0)))) [(.augIx (.var 4) (.call 4 [(.var 0), (.var 1)] [.inl 0, .inl 1]) .add (.const (.int 1)))] []), (.ret false (.var 4))]⟩
/-- _law_stepped -/
def f17 : FunI := ⟨6, 3, [(.asg 4 false (.bin .add (.comp (.tupl [(.bi .len (.var 3)), (.var 3)]) (.name 3) (.val (.var 0)) (some (.val (.cmp .ne (.var 3) (.var 1)))) [3]) (.disp [(.tupl [(.bin .sub (.var 2) (.bi .len (.var 1))), (.call 30 [(.var 1), (.var 2)] [.inl 0, .inl 1])])]))), (.ret false (.comp (.ix (.var 5) (.const (.int 1))) (.name 5) (.val (.bi .sorted (.var 4))) none [5]))]⟩
/-- _law_greatest -/
def f18 : FunI := ⟨5, 1, [(.asg 1 true (.disp [])), (.forS (.name 2) (.val (.var 0)) [(.ifs (.val (.cmp .eq (.comp (.var 3) (.name 3) (.val (.var 0)) (some (.and_ (.val (.cmp .ne (.var 3) (.var 2))) (.val (.call 31 [(.var 2), (.var 3)] [.inl 0, .inl 1])))) [3]) (.disp []))) [(.expr (.lm .append (.var 1) [(.tupl [(.bi .len (.var 2)), (.var 2)])]))] [])]), (.ret false (.comp (.ix (.var 4) (.const (.int 1))) (.name 4) (.val (.bi .sorted (.var 1))) none [4]))]⟩
/-- _law_lots -/
def f19 : FunI := ⟨5, 1, [(.asg 1 false (.disp [(.tupl [])])), (.forS (.name 2) (.rng1 (.var 0)) [(.asg 1 false (.bin .add (.var 1) (.comp (.bin .add (.var 3) (.tupl [(.var 2)])) (.name 3) (.val (.var 1)) none [3])))]), (.ret false (.comp (.ix (.var 4) (.const (.int 1))) (.name 4) (.val (.bi .sorted (.comp (.tupl [(.bi .len (.var 3)), (.var 3)]) (.name 3) (.val (.var 1)) none [3]))) none [4]))]⟩
/-- Book.__init__ -/
def f20 : FunI := ⟨4, 3, [(.ifs (.not_ (.val (.call 32 [(.var 1), (.const (.int 3)), (.const (.int 6))] [.inl 0, .inl 1, .inl 2]))) [(.rais 5 [(.const (.str (Str.ofString "many")))])] []), (.asg 3 false (.call 33 [(.var 2), (.var 1), (.const (.str (Str.ofString "greatest")))] [.inl 0, .inl 1, .inl 2])), (.setFld (.var 0) 4 (.call 34 [(.var 1), (.var 3)] [.inl 0, .inl 1])), (.ifs (.or_ (.not_ (.val (.call 36 [(.fld (.var 0) 4)] [.inl 0]))) (.val (.cmp .ne (.sortBy 35 (.var 3)) (.call 22 [(.fld (.var 0) 4)] [.inl 0])))) [(.rais 6 [(.const (.str (Str.ofString "greatest")))])] []), (.setFld (.var 0) 3 (.var 1)), (.setFld (.var 0) 5 (.bi .tuple (.call 22 [(.fld (.var 0) 4)] [.inl 0])))]⟩
/-- need_book -/
def f21 : FunI := ⟨2, 2, [(.ifs (.not_ (.val (.isi (.var 0) [.own 0]))) [(.rais 6 [(.var 1)])] [])]⟩
/-- greatest_of -/
def f22 : FunI := ⟨7, 1, [(.asg 1 true (.disp [])), (.forS (.tup [2, 3]) (.enum (.var 0)) [(.asg 5 false (.comp (.bin .bor (.var 2) (.bin .shl (.const (.int 1)) (.var 4))) (.name 4) (.rng1 (.const (.int 6))) (some (.and_ (.val (.cmp .lt (.bin .shl (.const (.int 1)) (.var 4)) (.bi .len (.var 0)))) (.val (.cmp .eq (.bin .band (.bin .shr (.var 2) (.var 4)) (.const (.int 1))) (.const (.int 0)))))) [4])), (.ifs (.and_ (.val (.var 3)) (.not_ (.val (.bi .any (.comp (.ix (.var 0) (.var 6)) (.name 6) (.val (.var 5)) none [6]))))) [(.expr (.lm .append (.var 1) [(.call 37 [(.var 2)] [.inl 0])]))] [])]), (.ret false (.sortBy 35 (.var 1)))]⟩
/-- shows_steps -/
def f23 : FunI := ⟨5, 3, [(.expr (.call 25 [(.var 0), (.var 1)] [.inl 0, .inl 1])), (.ifs (.or_ (.not_ (.val (.isi (.var 2) [.own 4]))) (.not_ (.val (.call 38 [(.fld (.var 2) 1), (.fld (.var 0) 3)] [.inl 0, .inl 1])))) [(.ret false (.const (.bl false)))] []), (.ifs (.val (.cmp .ne (.bi .len (.fld (.var 2) 1)) (.bi .len (.call 39 [(.var 0), (.var 1)] [.inl 0, .inl 1])))) [(.ret false (.const (.bl false)))] []), (.asg 3 false (.var 0)), (.forS (.name 4) (.val (.fld (.var 2) 1)) [(.ifs (.val (.cmp .nin (.var 4) (.fld (.var 3) 5))) [(.ret false (.const (.bl false)))] []), (.asg 3 false (.call 27 [(.var 3), (.var 4)] [.inl 0, .inl 1]))]), (.ret false (.cmp .eq (.var 3) (.var 1)))]⟩
/-- Steps.__init__ -/
def f24 : FunI := ⟨3, 2, [(.expr (.supr 40 [4] (.const (.str (Str.ofString "steps"))) [(.var 1)])), (.setFld (.var 0) 1 (.ix (.fld (.var 0) 7) (.const (.int 0))))]⟩
/-- need_books -/
def f25 : FunI := ⟨2, 2, [(.expr (.call 21 [(.var 0), (.const (.str (Str.ofString "one")))] [.inl 0, .inl 1])), (.expr (.call 21 [(.var 1), (.const (.str (Str.ofString "other")))] [.inl 0, .inl 1])), (.ifs (.val (.cmp .ne (.fld (.var 0) 3) (.fld (.var 1) 3))) [(.rais 2 [(.const (.str (Str.ofString "bars")))])] [])]⟩
/-- mask_of -/
def f26 : FunI := ⟨2, 1, [(.ret false (.bi .sum (.comp (.bin .shl (.const (.int 1)) (.var 1)) (.name 1) (.val (.var 0)) none [1])))]⟩
/-- step_by -/
def f27 : FunI := ⟨3, 2, [(.asg 2 true (.bi .list (.fld (.var 0) 4))), (.setIx (.var 2) (.call 26 [(.var 1)] [.inl 0]) (.const (.bl false))), (.setIx (.var 2) (.bin .sub (.neg (.const (.int 1))) (.call 26 [(.var 1)] [.inl 0])) (.const (.bl true))), (.ret false (.make 0 [(.fld (.var 0) 3), (.call 22 [(.var 2)] [.inl 0])] [.inl 0, .inl 1]))]⟩
/-- is_numbers -/
def f28 : FunI := ⟨2, 1, [(.ret false (.and_ (.isi (.var 0) [.ty "list", .ty "tuple"]) (.bi .all (.comp (.call 41 [(.var 1)] [.inl 0]) (.name 1) (.val (.var 0)) none [1]))))]⟩
/-- neighbours -/
def f29 : FunI := ⟨2, 1, [(.expr (.call 21 [(.var 0), (.const (.str (Str.ofString "book")))] [.inl 0, .inl 1])), (.ret false (.bi .tuple (.comp (.call 27 [(.var 0), (.var 1)] [.inl 0, .inl 1]) (.name 1) (.val (.fld (.var 0) 5)) none [1])))]⟩
/-- _law_others -/
def f30 : FunI := ⟨3, 2, [(.ret false (.bi .tuple (.comp (.var 2) (.name 2) (.rng1 (.var 1)) (some (.val (.cmp .nin (.var 2) (.var 0)))) [2])))]⟩
/-- _law_lies -/
def f31 : FunI := ⟨3, 2, [(.ret false (.cmp .eq (.comp (.var 2) (.name 2) (.val (.var 0)) (some (.val (.cmp .nin (.var 2) (.var 1)))) [2]) (.disp [])))]⟩
/-- is_within -/
def f32 : FunI := ⟨3, 3, [(.ifs (.or_ (.not_ (.val (.call 41 [(.var 0)] [.inl 0]))) (.and_ (.val (.cmp .isnt (.var 1) (.const .non))) (.val (.cmp .lt (.var 0) (.var 1))))) [(.ret false (.const (.bl false)))] []), (.ret false (.or_ (.cmp .is_ (.var 2) (.const .non)) (.cmp .le (.var 0) (.var 2))))]⟩
/-- lots_in -/
def f33 : FunI := ⟨4, 3, [(.ifs (.or_ (.not_ (.val (.isi (.var 0) [.ty "list", .ty "tuple"]))) (.not_ (.val (.bi .all (.comp (.call 28 [(.var 3)] [.inl 0]) (.name 3) (.val (.var 0)) none [3]))))) [(.rais 7 [(.var 2)])] []), (.ret false (.comp (.call 42 [(.var 3), (.var 1), (.var 2)] [.inl 0, .inl 1, .inl 2]) (.name 3) (.val (.var 0)) none [3]))]⟩
/-- table_by -/
def f34 : FunI := ⟨6, 2, [(.asg 3 false (.comp (.call 26 [(.var 2)] [.inl 0]) (.name 2) (.val (.var 1)) none [2])), (.ret false (.comp (.bi .any (.comp (.cmp .eq (.bin .band (.var 5) (.inv (.var 4))) (.const (.int 0))) (.name 4) (.val (.var 3)) none [4])) (.name 5) (.rng1 (.bin .shl (.const (.int 1)) (.var 0))) none [5]))]⟩
/-- lot_key -/
def f35 : FunI := ⟨1, 1, [(.ret false (.tupl [(.bi .len (.var 0)), (.var 0)]))]⟩
/-- is_parted -/
def f36 : FunI := ⟨3, 1, [(.ret false (.bi .all (.comp (.cmp .ne (.var 2) (.ix (.var 0) (.bin .sub (.neg (.const (.int 1))) (.var 1)))) (.tup [1, 2]) (.enum (.var 0)) none [1, 2])))]⟩
/-- lot_of -/
def f37 : FunI := ⟨2, 1, [(.ret false (.bi .tuple (.comp (.var 1) (.name 1) (.rng1 (.const (.int 6))) (some (.val (.cmp .eq (.bin .band (.bin .shr (.var 0) (.var 1)) (.const (.int 1))) (.const (.int 1))))) [1])))]⟩
/-- are_lots -/
def f38 : FunI := ⟨4, 2, [(.ret false (.and_ (.isi (.var 0) [.ty "tuple"]) (.bi .all (.comp (.and_ (.call 43 [(.var 3)] [.inl 0]) (.bi .all (.comp (.cmp .lt (.var 2) (.var 1)) (.name 2) (.val (.var 3)) none [2]))) (.name 3) (.val (.var 0)) none [3]))))]⟩
/-- parted_lots -/
def f39 : FunI := ⟨3, 2, [(.ret false (.comp (.var 2) (.name 2) (.val (.meth 0 (.var 0) [])) (some (.not_ (.val (.ix (.fld (.var 1) 4) (.call 26 [(.var 2)] [.inl 0]))))) [2]))]⟩
/-- Paper.__init__ -/
def f40 : FunI := ⟨3, 3, [(.setFld (.var 0) 8 (.var 1)), (.setFld (.var 0) 7 (.call 45 [(.var 2)] [.inl 0]))]⟩
/-- is_integer -/
def f41 : FunI := ⟨1, 1, [(.ret false (.and_ (.isi (.var 0) [.ty "int"]) (.not_ (.isi (.var 0) [.ty "bool"]))))]⟩
/-- lot_in -/
def f42 : FunI := ⟨3, 3, [(.expr (.call 46 [(.var 1), (.var 0), (.var 2)] [.inl 0, .inl 1, .inl 2])), (.ret false (.bi .tuple (.bi .sorted (.var 0))))]⟩
/-- is_lot -/
def f43 : FunI := ⟨4, 1, [(.ifs (.or_ (.not_ (.val (.call 28 [(.var 0)] [.inl 0]))) (.not_ (.val (.bi .all (.comp (.cmp .ge (.var 1) (.const (.int 0))) (.name 1) (.val (.var 0)) none [1]))))) [(.ret false (.const (.bl false)))] []), (.ret false (.bi .all (.comp (.cmp .lt (.var 2) (.var 3)) (.tup [2, 3]) (.zip2 (.sl (.var 0) none (some (.neg (.const (.int 1))))) (.sl (.var 0) (some (.const (.int 1))) none)) none [2, 3])))]⟩
/-- Book.short_lots -/
def f44 : FunI := ⟨4, 1, [(.asg 3 false (.comp (.call 37 [(.var 1)] [.inl 0]) (.tup [1, 2]) (.enum (.fld (.var 0) 4)) (some (.val (.var 2))) [1, 2])), (.ret false (.bi .tuple (.sortBy 35 (.var 3))))]⟩
/-- fixed -/
def f45 : FunI := ⟨2, 1, [(.ifs (.not_ (.val (.isi (.var 0) [.ty "list", .ty "tuple"]))) [(.ret false (.var 0))] []), (.ret false (.bi .tuple (.comp (.call 45 [(.var 1)] [.inl 0]) (.name 1) (.val (.var 0)) none [1])))]⟩
/-- need_lot_of -/
def f46 : FunI := ⟨5, 3, [(.ifs (.not_ (.val (.call 28 [(.var 1)] [.inl 0]))) [(.rais 7 [(.var 2)])] []), (.forS (.name 3) (.val (.var 1)) [(.ifs (.not_ (.val (.call 32 [(.var 3), (.const (.int 0)), (.bin .sub (.var 0) (.const (.int 1)))] [.inl 0, .inl 1, .inl 2]))) [(.rais 9 [(.var 3)])] [])]), (.asg 4 false (.call 47 [(.var 1)] [.inl 0])), (.ifs (.val (.cmp .isnt (.var 4) (.const .non))) [(.rais 10 [(.var 4)])] [])]⟩
/-- first_twice -/
def f47 : FunI := ⟨3, 1, [(.asg 1 true .newd), (.forS (.name 2) (.val (.var 0)) [(.ifs (.val (.cmp .in_ (.var 2) (.var 1))) [(.ret false (.var 2))] []), (.setIx (.var 1) (.var 2) (.const (.bl true)))]), (.ret false (.const .non))]⟩
/-- Book.__eq__ -/
def f48 : FunI := ⟨2, 2, [(.ret false (.and_ (.isi (.var 1) [.own 0]) (.and_ (.cmp .eq (.fld (.var 0) 3) (.fld (.var 1) 3)) (.cmp .eq (.fld (.var 0) 5) (.fld (.var 1) 5)))))]⟩
/-- Book.__str__ -/
def f49 : FunI := ⟨4, 1, [(.asg 3 false (.pm .join (.const (.str (Str.ofString " / "))) [(.comp (.pm .join (.const (.str (Str.ofString " "))) [(.comp (.str_ 6 (.var 1)) (.name 1) (.val (.var 2)) none [1])]) (.name 2) (.val (.fld (.var 0) 5)) none [2])])), (.ret false (.fstr [(.fld (.var 0) 3), (.const (.str (Str.ofString " : "))), (.var 3)]))]⟩
def funs : List FunI := [f0, f1, f2, f3, f4, f5, f6, f7, f8, f9, f10, f11, f12, f13, f14, f15, f16, f17, f18, f19, f20, f21, f22, f23, f24, f25, f26, f27, f28, f29, f30, f31, f32, f33, f34, f35, f36, f37, f38, f39, f40, f41, f42, f43, f44, f45, f46, f47, f48, f49]
def clss : List ClsI := [{ init := some 20, lv := false, up := [], meths := [(10, 20), (0, 44), (2, 12), (11, 48), (6, 49)], eq := some 48, flds := [], dat := [4, 3, 5] },
  { init := none, lv := false, up := [], meths := [], eq := none, flds := [], dat := [] },
  { init := none, lv := false, up := [1], meths := [], eq := none, flds := [9], dat := [] },
  { init := none, lv := false, up := [], meths := [], eq := none, flds := [], dat := [8, 7] },
  { init := some 24, lv := false, up := [3], meths := [(10, 24)], eq := none, flds := [], dat := [1, 8, 7] },
  { init := none, lv := false, up := [1], meths := [], eq := none, flds := [9], dat := [] },
  { init := none, lv := false, up := [1], meths := [], eq := none, flds := [9], dat := [] },
  { init := none, lv := false, up := [1], meths := [], eq := none, flds := [9], dat := [] },
  { init := none, lv := false, up := [1], meths := [], eq := none, flds := [12], dat := [] },
  { init := none, lv := false, up := [8, 1], meths := [], eq := none, flds := [12], dat := [] },
  { init := none, lv := false, up := [1], meths := [], eq := none, flds := [12], dat := [] }]
def P : Prog := ⟨funs, clss⟩
def pssL_0 : List (List Str) := [["_law_script"], ["_law_script"], ["_law_hat_here", "_law_some"], ["_law_hat_here", "_law_many"], ["_law_hat_here", "_law_many"], ["_law_many", "_law_rows"], ["_law_hat_here", "_law_many", "_law_shorts_here"], ["one", "other", "third"], ["_law_books", "_law_found"], ["_law_one_here", "_law_other"], ["one", "other"], ["_law_hat_here", "_law_some"], ["self", "order"], ["_law_hat_here", "_law_books", "_law_found"], ["_law_hat_here", "_law_many", "_law_book_here"], ["_law_lengths_here"], ["_law_hat_here", "_law_many"], ["_law_shorts_here", "_law_lot_here", "_law_many"], ["_law_shorts_here"], ["_law_many"]]
def pssL_1 : List (List Str) := [["self", "many", "greatest"], ["value", "part"], ["table"], ["one", "other", "value"], ["self", "lots"], ["one", "other"], ["lot"], ["book", "lot"], ["value"], ["book"], ["_law_lot_here", "_law_many"], ["_law_one_here", "_law_other"], ["value", "least", "most"], ["value", "many", "part"], ["many", "lots"], ["lot"], ["table"], ["mask"], ["value", "many"], ["one", "other"]]
def pssL_2 : List (List Str) := [["self", "word", "parts"], ["value"], ["value", "many", "part"], ["value"], ["self"], ["value"], ["many", "value", "part"], ["values"], ["self", "other"], ["self"]]
def pssL : List (List Str) := pssL_0 ++ pssL_1 ++ pssL_2
def fnL_0 : List (Str × Nat) := [("law", 0), ("_law_hat", 1), ("_law_one", 2), ("_law_shorts", 3), ("_law_lot", 4), ("_law_counted", 5), ("_law_book", 6), ("majority", 7), ("_law_passed_right", 8), ("_law_apart", 9), ("steps_between", 10), ("_law_mixed", 11), ("_law_alone_right", 13), ("_law_refused_right", 14), ("_law_of_lengths", 15), ("_law_lengths", 16), ("_law_stepped", 17), ("_law_greatest", 18), ("_law_lots", 19), ("need_book", 21), ("greatest_of", 22), ("shows_steps", 23), ("need_books", 25), ("mask_of", 26), ("step_by", 27), ("is_numbers", 28), ("neighbours", 29), ("_law_others", 30), ("_law_lies", 31), ("is_within", 32)]
def fnL_1 : List (Str × Nat) := [("lots_in", 33), ("table_by", 34), ("lot_key", 35), ("is_parted", 36), ("lot_of", 37), ("are_lots", 38), ("parted_lots", 39), ("is_integer", 41), ("lot_in", 42), ("is_lot", 43), ("fixed", 45), ("need_lot_of", 46), ("first_twice", 47)]
def fnL : List (Str × Nat) := fnL_0 ++ fnL_1
def clL : List (Str × Nat) := [("Book", 0), ("RingError", 1), ("Misfit", 2), ("Paper", 3), ("Steps", 4), ("BadNumber", 5), ("BadBook", 6), ("BadLot", 7), ("Missing", 8), ("NoBar", 9), ("Twice", 10)]
def attL : List Str := ["short_lots", "lots", "in_order", "many", "table", "greatest", "__str__", "parts", "word", "part", "__init__", "__eq__", "value"]
def blL : List Str := ["len", "isinstance", "list", "tuple", "int", "bool", "str", "sum", "sorted", "range", "any", "all", "abs", "zip", "enumerate", "repr"]
def T : CT := { fn := fnL, pss := fun g => pssL.getD g [], cl := clL, ini := fun c => (clss[c]?).bind (·.init), con := [("FEWEST", (.int 3)), ("MOST", (.int 6))], att := attL, bl := blL, crs := [.own 0, .own 4, .ty "list", .ty "tuple", .ty "bool", .ty "int"], strm := 6, exc := [2, 5, 6, 7, 8, 9, 10], hd := [("_law_heard", (1, hd__law_heard))] }
def locL_0 : List (Str × Option Str) := [("law", none), ("_law_hat", none), ("_law_one", none), ("_law_shorts", none), ("_law_lot", none), ("_law_counted", none), ("_law_book", none), ("majority", none), ("_law_passed_right", none), ("_law_apart", none), ("steps_between", none), ("_law_mixed", none), ("Book", some "in_order"), ("_law_alone_right", none), ("_law_refused_right", none), ("_law_of_lengths", none), ("_law_lengths", none), ("_law_stepped", none), ("_law_greatest", none), ("_law_lots", none), ("Book", some "__init__"), ("need_book", none), ("greatest_of", none), ("shows_steps", none), ("Steps", some "__init__"), ("need_books", none), ("mask_of", none), ("step_by", none), ("is_numbers", none), ("neighbours", none)]
def locL_1 : List (Str × Option Str) := [("_law_others", none), ("_law_lies", none), ("is_within", none), ("lots_in", none), ("table_by", none), ("lot_key", none), ("is_parted", none), ("lot_of", none), ("are_lots", none), ("parted_lots", none), ("Paper", some "__init__"), ("is_integer", none), ("lot_in", none), ("is_lot", none), ("Book", some "short_lots"), ("fixed", none), ("need_lot_of", none), ("first_twice", none), ("Book", some "__eq__"), ("Book", some "__str__")]
def locL : List (Str × Option Str) := locL_0 ++ locL_1
def L : LD := ⟨T, P, locL, ["Book", "RingError", "Misfit", "Paper", "Steps", "BadNumber", "BadBook", "BadLot", "Missing", "NoBar", "Twice"], [0, 1, 2, 3, 4, 5, 6, 7, 8, 9, 10, 11, 12, 13, 14, 15, 16, 17, 18, 19, 20, 21, 22, 23, 24, 25, 26, 27, 28, 29, 30, 31, 32, 33, 34, 35, 36, 37, 38, 39, 41, 42, 43, 44, 45, 46, 47, 48, 49], [40]⟩
/- functions: 0 law, 1 _law_hat, 2 _law_one, 3 _law_shorts, 4 _law_lot, 5 _law_counted, 6 _law_book, 7 majority, 8 _law_passed_right, 9 _law_apart, 10 steps_between, 11 _law_mixed, 12 Book.in_order, 13 _law_alone_right, 14 _law_refused_right, 15 _law_of_lengths, 16 _law_lengths, 17 _law_stepped, 18 _law_greatest, 19 _law_lots, 20 Book.__init__, 21 need_book, 22 greatest_of, 23 shows_steps, 24 Steps.__init__, 25 need_books, 26 mask_of, 27 step_by, 28 is_numbers, 29 neighbours, 30 _law_others, 31 _law_lies, 32 is_within, 33 lots_in, 34 table_by, 35 lot_key, 36 is_parted, 37 lot_of, 38 are_lots, 39 parted_lots, 40 Paper.__init__, 41 is_integer, 42 lot_in, 43 is_lot, 44 Book.short_lots, 45 fixed, 46 need_lot_of, 47 first_twice, 48 Book.__eq__, 49 Book.__str__ -/
/- classes: 0 Book, 1 RingError, 2 Misfit, 3 Paper, 4 Steps, 5 BadNumber, 6 BadBook, 7 BadLot, 8 Missing, 9 NoBar, 10 Twice -/
/- attributes: 0 short_lots, 1 lots, 2 in_order, 3 many, 4 table, 5 greatest, 6 __str__, 7 parts, 8 word, 9 part, 10 __init__, 11 __eq__, 12 value -/
end I81

set_option linter.all false
set_option maxRecDepth 100000
set_option maxHeartbeats 2000000
namespace I81m
open Z (Dat Cell St Env Res opt view raw settle live BOp COp big binop toPy toPys shapedO eqD isInts inD isStr isNonD cmpop truth ixD ixL cut slD BI LM PM CR Tgt HE IE IT It IS FunI ClsI Prog bindT wipeE tyIs isiD npOf plainC isiOk ownEq datC fldD belowC excQ hasFld evH evHs isBls isStrs isTupD seqOf maxI minI cmpD ltD encD isT1 isN0 okP okSort sortD sortZ biD bi2D rngOk rngD joinD pmD pmT isLst lmD fmtD keyD valD putD setIxD putK permD loopC Fl loopF loopW Fun setAll ev evT evs evD evF evO evI exS exB parG storeFld storeIx runF callF REx)
open PySem (Str PyData)
open Z.Res
open ME I81
theorem s_mask_of {n m : Nat} {s : St} (hm : m < 64) : callF P (n + 2) 26 [lotD m] s = .ok (nI m) s := by
  rw [call_eq (q := f26) rfl rfl _ rfl]
  simp -implicitDefEqProofs [f26, big_nat (show (bits m).length ≤ 1000000 by have := bits_len (m := m); omega)]
  rw [loopC_all (e := nI) (g := fun i => Dat.int (2 ^ i)) fun i hi => by simp -implicitDefEqProofs [bo_shl (show i ≤ 1000000 by have := bits_lt hi; omega)]]
  simp -implicitDefEqProofs [bi_sum, bits_sum hm]
theorem s_lot_of {n m : Nat} {s : St} (hm : m < 64) : callF P (n + 2) 37 [nI m] s = .ok (lotD m) s := by
  rw [call_eq (q := f37) rfl rfl _ rfl]
  simp -implicitDefEqProofs [f37, rngOk6, big6]
  rw [loopC_if (e := nI) (p := fun i => m.testBit i) (g := nI) fun i hi => by
    have := tb1 hm (List.mem_range.mp hi)
    cases h : m.testBit i <;> simp -implicitDefEqProofs [h, this]]
  simp -implicitDefEqProofs
  rfl
theorem s_lot_key {n m : Nat} {s : St} (hm : m < 64) : callF P (n + 2) 35 [lotD m] s = .ok (keyM m) s := by
  rw [call_eq (q := f35) rfl rfl _ rfl]
  simp -implicitDefEqProofs [f35, big_nat]
theorem s_table_by {n k : Nat} {l : List Nat} {s : St} (hk : k ≤ 6) (hl : ∀ m ∈ l, m < 64) (hll : l.length ≤ 1000) : callF P (n + 3) 34 [nI k, .lst (l.map lotD)] s = .ok (.lst ((List.range (2 ^ k)).map fun m => .bl (l.any fun o => sub m o))) s := by
  have hb : binop .shl (.int 1) (.int (k : Int)) = some (.int (2 ^ k)) := bo_shl (show k ≤ 1000000 by omega)
  have hB := big_nat (show 2 ^ k ≤ 1000000 by have := pow_le hk; omega)
  have hL := big_nat (show l.length ≤ 1000000 by omega)
  rw [call_eq (q := f34) rfl rfl _ rfl]
  simp -implicitDefEqProofs [f34, hL]
  rw [loopC_all (e := lotD) (g := nI) fun m hm => by simp -implicitDefEqProofs [s_mask_of (hl m hm)]]
  simp -implicitDefEqProofs [hb, rngOk_pow hk, toNat_pow, hB, hL]
  rw [loopC_all (e := nI) (g := fun m => Dat.bl (l.any fun o => sub m o)) fun m hm => ?_]
  · simp -implicitDefEqProofs
  · have hm' : m < 64 := Nat.lt_of_lt_of_le (List.mem_range.mp hm) (pow_le hk)
    rw [loopC_all (e := nI) (g := fun o => Dat.bl (sub m o)) fun o ho => by simp -implicitDefEqProofs [sub64 hm' (hl o ho)]]
    simp -implicitDefEqProofs [bi_any]
theorem s_is_parted {n k : Nat} {t : Nat → Bool} {s : St} (hk : k ≤ 6) : callF P (n + 2) 36 [.lst ((List.range (2 ^ k)).map fun m => .bl (t m))] s = .ok (.bl ((List.range (2 ^ k)).all fun m => t m != t (2 ^ k - 1 - m))) s := by
  have hB := big_nat (show 2 ^ k ≤ 1000000 by have := pow_le hk; omega)
  rw [call_eq (q := f36) rfl rfl _ rfl]
  simp -implicitDefEqProofs [f36, hB]
  rw [enum_range, loopC_all (e := fun m => Dat.tup [nI m, Dat.bl (t m)]) (g := fun m => Dat.bl (t m != t (2 ^ k - 1 - m))) fun m hm => by simp -implicitDefEqProofs [ix_tabB (List.mem_range.mp hm)]; cases t m <;> cases t (2 ^ k - 1 - m) <;> rfl]
  simp -implicitDefEqProofs [bi_all]
abbrev tabD (k : Nat) (t : Nat → Bool) : Dat := .lst ((List.range (2 ^ k)).map fun m => .bl (t m))
theorem s_greatest_of' {n k : Nat} {t : Nat → Bool} {d : Dat} {s s1 : St} (hk : k ≤ 6) (hr : raw d = d) (hset : ∀ r, settle d (s ++ r) = .ok (tabD k t) (s1 ++ r)) (hview : ∀ r, view (s1 ++ r) d = tabD k t) (hlen : s1.length = s.length) : callF P (n + 3) 22 [d] s = .ok (.lst ((grL k t).map lotD)) s1 := by
  have hB := big_nat (show 2 ^ k ≤ 1000000 by have := pow_le hk; omega)
  rw [call_eq (q := f22) rfl rfl _ rfl]
  simp -implicitDefEqProofs [f22, hB, hset]
  rw [← hlen]
  rw [enum_range]
  refine fin_loop (e := fun m => Dat.tup [nI m, Dat.bl (t m)]) (xs := List.range (2 ^ k))
    (fun r δ s' => ∃ pre, List.range (2 ^ k) = pre ++ r ∧ (∃ a b c, δ = [some d, some (.obj s1.length), a, b, none, c, none]) ∧ s' = s1 ++ [.lst ((pre.filter (topB k t)).map lotD)])
    ⟨[], rfl, ⟨none, none, none, rfl⟩, rfl⟩ ?_ ?_
  · rintro δ' s' ⟨pre, hp, ⟨a, b, c, rfl⟩, rfl⟩
    rw [List.append_nil] at hp
    subst hp
    have hl : ∀ m ∈ (List.range (2 ^ k)).filter (topB k t), m < 64 := fun m hm => Nat.lt_of_lt_of_le (List.mem_range.mp (List.mem_filter.mp hm).1) (pow_le hk)
    simp -implicitDefEqProofs
    rw [loopC_all (e := lotD) (g := keyM) fun m hm => by simp -implicitDefEqProofs [s_lot_key (hl m hm)]]
    simp -implicitDefEqProofs [okSort_keys hl, hlen, sortZ_keys (List.nodup_range.filter _) hl]
    rfl
  · rintro m r δ s' ⟨pre, hp, ⟨a, b, c, rfl⟩, rfl⟩
    have hm : m < 2 ^ k := by
      have : m ∈ List.range (2 ^ k) := by rw [hp]; simp
      exact List.mem_range.mp this
    have hm6 : m < 64 := Nat.lt_of_lt_of_le hm (pow_le hk)
    have hlen : pre.length ≤ 64 := by
      have := congrArg List.length hp
      rw [List.length_range, List.length_append] at this
      have := pow_le hk
      omega
    have hlen2 : (List.map lotD (List.filter (topB k t) pre)).length < 16777216 := by
      rw [List.length_map]
      have := List.length_filter_le (topB k t) pre
      omega
    have hup : (upL k m).length ≤ 6 := by
      unfold upL
      rw [List.length_map]
      exact Nat.le_trans (List.length_filter_le _ _) (by simp)
    refine ⟨[some d, some (.obj s1.length), some (nI m), some (.bl (t m)), none, some (lstN (upL k m)), none], s1 ++ [.lst (((pre ++ [m]).filter (topB k t)).map lotD)], ?_, pre ++ [m], by rw [hp, List.append_assoc]; rfl, ⟨_, _, _, rfl⟩, rfl⟩
    simp -implicitDefEqProofs [hr, hview]
    rw [loopC_if (e := nI) (p := fun i => decide (i < k) && !m.testBit i) (g := fun i => nI (m ||| 2 ^ i)) fun i hi => by
        have hi6 := List.mem_range.mp hi
        have h0 := tb0 hm6 hi6
        have h2 := pow_lt_iff (show i ≤ 6 by omega) hk
        simp -implicitDefEqProofs [bo_shl (show i ≤ 1000000 by omega), h2, h0, or64 hm6 hi6, hr, hview]
        by_cases q : i < k
        · cases h : m.testBit i <;> simp -implicitDefEqProofs [q, h, h0]
        · simp -implicitDefEqProofs [q]]
    have eu : List.map (fun i => nI (m ||| 2 ^ i)) (List.filter (fun i => decide (i < k) && !m.testBit i) (List.range 6)) = (upL k m).map nI := by unfold upL; rw [List.map_map]; rfl
    rw [eu]
    simp -implicitDefEqProofs
    cases ht : t m with
    | false => simp -implicitDefEqProofs [topB, ht]
    | true =>
      simp -implicitDefEqProofs [big_nat (show (upL k m).length ≤ 1000000 by omega)]
      rw [loopC_all (e := nI) (g := fun o => Dat.bl (t o)) fun o ho => by simp -implicitDefEqProofs [ix_tab (up_lt hm ho), hr, hview]]
      simp -implicitDefEqProofs [bi_any]
      cases hu : (upL k m).any t with
      | true =>
        have hn : ¬ ∀ x, x ∈ upL k m → t x = false := fun h => by
          obtain ⟨x, hx, e⟩ := List.any_eq_true.mp hu
          rw [h x hx] at e; cases e
        have ht' : topB k t m = false := by unfold topB; rw [hu]; simp
        rw [if_neg (by simpa using hn)]
        simp -implicitDefEqProofs [ht']
      | false =>
        have hn : ∀ x, x ∈ upL k m → t x = false := fun x hx => by
          have := List.any_eq_false.mp hu x hx
          simpa using this
        have ht' : topB k t m = true := by unfold topB; rw [hu, ht]; rfl
        rw [if_pos (by simpa using hn)]
        simp -implicitDefEqProofs [s_lot_of hm6, lmD_append hlen2, ht']
theorem s_greatest_of {n k : Nat} {t : Nat → Bool} {s : St} (hk : k ≤ 6) : callF P (n + 3) 22 [tabD k t] s = .ok (.lst ((grL k t).map lotD)) s := s_greatest_of' hk rfl (fun _ => rfl) (fun _ => rfl) rfl
theorem s_greatest_ofL {n k : Nat} {t : Nat → Bool} {s : St} (hk : k ≤ 6) : callF P (n + 3) 22 [.obj s.length] (s ++ [.lst ((List.range (2 ^ k)).map fun m => .bl (t m))]) = .ok (.lst ((grL k t).map lotD)) (s ++ [.froz (tabD k t)]) := by
  have g1 : ∀ {α : Type} {s r : List α} {c : α}, (s ++ [c] ++ r)[s.length]? = some c := fun {α s r c} => by simp
  refine s_greatest_of' hk rfl (fun r => ?_) (fun r => ?_) (by simp)
  · rw [settle_obj g1 fun _ h => by cases h]
    simp
  · rw [view_obj g1]; rfl
end I81m

set_option linter.all false
set_option maxRecDepth 100000
set_option maxHeartbeats 2000000
namespace I81m
open Z (Dat Cell St Env Res opt view raw settle live BOp COp big binop toPy toPys shapedO eqD isInts inD isStr isNonD cmpop truth ixD ixL cut slD BI LM PM CR Tgt HE IE IT It IS FunI ClsI Prog bindT wipeE tyIs isiD npOf plainC isiOk ownEq datC fldD belowC excQ hasFld evH evHs isBls isStrs isTupD seqOf maxI minI cmpD ltD encD isT1 isN0 okP okSort sortD sortZ biD bi2D rngOk rngD joinD pmD pmT isLst lmD fmtD keyD valD putD setIxD putK permD loopC Fl loopF loopW Fun setAll ev evT evs evD evF evO evI exS exB parG storeFld storeIx runF callF REx)
open PySem (Str PyData)
open Z.Res
open ME I81
theorem s_is_integer {n : Nat} {i : Int} {s : St} : callF P (n + 2) 41 [.int i] s = .ok (.bl true) s := by
  rw [call_eq (q := f41) rfl rfl _ rfl]
  simp -implicitDefEqProofs [f41, isiD, isiOk, tyIs]
theorem s_is_within {n : Nat} {v a b : Int} {s : St} : callF P (n + 3) 32 [.int v, .int a, .int b] s = .ok (.bl (decide (a ≤ v) && decide (v ≤ b))) s := by
  rw [call_eq (q := f32) rfl rfl _ rfl]
  simp -implicitDefEqProofs [f32, s_is_integer, isNonD]
  by_cases h : v < a
  · simp -implicitDefEqProofs [h, show ¬ a ≤ v by omega]
  · simp -implicitDefEqProofs [h, show a ≤ v by omega]
theorem s_is_numbers {n : Nat} {b : Bool} {l : List Nat} {s : St} (h : l.length ≤ 1000) : callF P (n + 3) 28 [sqD b (l.map nI)] s = .ok (.bl true) s := by
  rw [call_eq (q := f28) rfl rfl _ rfl]
  simp -implicitDefEqProofs [f28, big_nat (show l.length ≤ 1000000 by omega)]
  rw [loopC_all (e := nI) (g := fun i => Dat.bl true) fun i hi => by simp -implicitDefEqProofs [s_is_integer]]
  simp -implicitDefEqProofs [bi_all]
theorem s_first_twice {n : Nat} {b : Bool} {l : List Nat} {s : St} (nd : l.Nodup) (h : l.length ≤ 1000) : callF P (n + 2) 47 [sqD b (l.map nI)] s = .ok .non s := by
  rw [call_eq (q := f47) rfl rfl _ rfl]
  simp -implicitDefEqProofs [f47]
  refine fin_loop (e := nI) (xs := l) (fun r δ s' => ∃ pre, l = pre ++ r ∧ (∃ a, δ = [some (sqD b (l.map nI)), some (.obj s.length), a]) ∧ s' = s ++ [.dic (dicN pre)]) ⟨[], rfl, ⟨none, rfl⟩, rfl⟩ ?_ ?_
  · rintro δ' s' ⟨pre, hp, ⟨a, rfl⟩, rfl⟩
    simp -implicitDefEqProofs
  · rintro x r δ s' ⟨pre, hp, ⟨a, rfl⟩, rfl⟩
    have hx : x ∉ pre := by
      rw [hp] at nd
      intro hm
      exact (List.nodup_append.mp nd).2.2 x hm x List.mem_cons_self rfl
    have hl : pre.length ≤ 1000 := by
      have := congrArg List.length hp
      rw [List.length_append] at this
      omega
    refine ⟨[some (sqD b (l.map nI)), some (.obj s.length), some (nI x)], s ++ [.dic (dicN (pre ++ [x]))], ?_, pre ++ [x], by rw [hp, List.append_assoc]; rfl, ⟨_, rfl⟩, rfl⟩
    simp -implicitDefEqProofs [inD_dic, hx, storeIx_dic hx hl]
theorem s_need_lot_of {n k : Nat} {b : Bool} {l : List Nat} {p : Str} {s : St} (nd : l.Nodup) (h : ∀ i ∈ l, i < k) (hl : l.length ≤ 1000) : callF P (n + 4) 46 [nI k, sqD b (l.map nI), .str p] s = .ok .non s := by
  rw [call_eq (q := f46) rfl rfl _ rfl]
  simp -implicitDefEqProofs [f46, s_is_numbers hl]
  refine fin_loop (e := nI) (xs := l) (fun r δ s' => (∀ i ∈ r, i < k) ∧ (∃ a, δ = [some (nI k), some (sqD b (l.map nI)), some (.str p), a, none]) ∧ s' = s) ⟨h, ⟨none, rfl⟩, rfl⟩ ?_ ?_
  · rintro δ' s' ⟨_, ⟨a, rfl⟩, rfl⟩
    simp -implicitDefEqProofs [s_first_twice nd hl, isNonD]
  · rintro x r δ s' ⟨hr, ⟨a, rfl⟩, rfl⟩
    have hx := hr x List.mem_cons_self
    refine ⟨[some (nI k), some (sqD b (l.map nI)), some (.str p), some (nI x), none], s', ?_, fun i hi => hr i (List.mem_cons_of_mem _ hi), ⟨_, rfl⟩, rfl⟩
    simp -implicitDefEqProofs [s_is_within, show (x : Int) ≤ (k : Int) - 1 by omega]
theorem s_lot_in {n k m : Nat} {b : Bool} {l : List Nat} {p : Str} {s : St} (h : l.Perm (bits m)) (hm : m < 2 ^ k) (hk : k ≤ 6) : callF P (n + 5) 42 [sqD b (l.map nI), nI k, .str p] s = .ok (lotD m) s := by
  have nd : l.Nodup := bits_nodup.perm h.symm
  have hl : l.length ≤ 1000 := by
    have := h.length_eq
    have := bits_len (m := m)
    omega
  have hlt : ∀ i ∈ l, i < k := fun i hi => by
    have := bits_mem.mp (h.mem_iff.mp hi)
    exact Nat.lt_of_not_le fun z => by
      rw [Nat.testBit_lt_two_pow (Nat.lt_of_lt_of_le hm (Nat.pow_le_pow_right (by omega) z))] at this
      exact absurd this.2 (by simp)
  rw [call_eq (q := f42) rfl rfl _ rfl]
  simp -implicitDefEqProofs [f42, s_need_lot_of nd hlt hl, bi_sorted h]
/-- lists or tuples: each the numbers of a lot in any order -/
abbrev TL := List (Nat × Bool × List Nat)
def Told (k : Nat) (xs : TL) : Prop := xs.length ≤ 1000 ∧ ∀ x ∈ xs, x.1 < 2 ^ k ∧ x.2.2.Perm (bits x.1)
abbrev tolD (x : Nat × Bool × List Nat) : Dat := sqD x.2.1 (x.2.2.map nI)
theorem s_lots_in {n k : Nat} {b : Bool} {xs : TL} {p : Str} {s : St} (T : Told k xs) (hk : k ≤ 6) : callF P (n + 6) 33 [sqD b (xs.map tolD), nI k, .str p] s = .ok (.lst (xs.map fun x => lotD x.1)) s := by
  have hB := big_nat (show xs.length ≤ 1000000 by have := T.1; omega)
  have hl : ∀ x ∈ xs, x.2.2.length ≤ 1000 := fun x hx => by
    have := (T.2 x hx).2.length_eq
    have := bits_len (m := x.1)
    omega
  rw [call_eq (q := f33) rfl rfl _ rfl]
  simp -implicitDefEqProofs [f33, hB]
  rw [loopC_all (e := tolD) (g := fun x => Dat.bl true) fun x hx => by simp -implicitDefEqProofs [s_is_numbers (hl x hx)]]
  simp -implicitDefEqProofs [bi_all, hB]
  rw [loopC_all (e := tolD) (g := fun x => lotD x.1) fun x hx => by simp -implicitDefEqProofs [s_lot_in (T.2 x hx).2 (T.2 x hx).1 hk]]
  simp -implicitDefEqProofs
end I81m

set_option linter.all false
set_option maxRecDepth 100000
set_option maxHeartbeats 2000000
namespace I81m
open Z (Dat Cell St Env Res opt view raw settle live BOp COp big binop toPy toPys shapedO eqD isInts inD isStr isNonD cmpop truth ixD ixL cut slD BI LM PM CR Tgt HE IE IT It IS FunI ClsI Prog bindT wipeE tyIs isiD npOf plainC isiOk ownEq datC fldD belowC excQ hasFld evH evHs isBls isStrs isTupD seqOf maxI minI cmpD ltD encD isT1 isN0 okP okSort sortD sortZ biD bi2D rngOk rngD joinD pmD pmT isLst lmD fmtD keyD valD putD setIxD putK permD loopC Fl loopF loopW Fun setAll ev evT evs evD evF evO evI exS exB parG storeFld storeIx runF callF REx)
open PySem (Str PyData)
open Z.Res
open ME I81
def bookC : ClsI := (clss[0]?).getD {}
theorem c_book : P.clss[0]? = some bookC := (rfl)
theorem isi_book {fs : List (Nat × Dat)} : isiD P (.ins 0 fs) (.own 0) = true := (rfl)
theorem isiOk_book {fs : List (Nat × Dat)} : isiOk P (.ins 0 fs) = true := (rfl)
theorem d_table : datC P 0 4 = true := (rfl)
theorem d_many : datC P 0 3 = true := (rfl)
theorem d_greatest : datC P 0 5 = true := (rfl)
abbrev lotsD (l : List Nat) : Dat := .tup (l.map lotD)
abbrev bookD (k : Nat) (t : Nat → Bool) : Dat := .ins 0 [(4, tabD k t), (3, nI k), (5, lotsD (grL k t))]
/-- what a book may be made of -/
def Makes (k : Nat) (t : Nat → Bool) (xs : TL) : Prop := Told k xs ∧ (xs.map (·.1)).Perm (grL k t)
theorem s_book_init {n k : Nat} {t : Nat → Bool} {b : Bool} {xs : TL} {s : St} (g : Good k t) (T : Makes k t xs) : callF P (n + 7) 20 [.obj s.length, nI k, sqD b (xs.map tolD)] (s ++ [.ins 0 []]) = .ok .non (s ++ [.ins 0 [(4, tabD k t), (3, nI k), (5, lotsD (grL k t))]]) := by
  have hk := g.k6
  have h3 := g.k3
  have hl : ∀ m ∈ xs.map (·.1), m < 64 := fun m hm => gr_lt hk (T.2.mem_iff.mp hm)
  have hlen : (xs.map (·.1)).length ≤ 1000 := by rw [List.length_map]; exact T.1.1
  have e1 : xs.map (fun x => lotD x.1) = (xs.map (·.1)).map lotD := by rw [List.map_map]; rfl
  have et : ∀ m, m < 2 ^ k → ((xs.map (·.1)).any fun o => sub m o) = t m := fun m hm => g.any (fun m => T.2.mem_iff) hm
  have e2 : (List.range (2 ^ k)).map (fun m => Dat.bl ((xs.map (·.1)).any fun o => sub m o)) = (List.range (2 ^ k)).map fun m => Dat.bl (t m) := List.map_congr_left fun m hm => by rw [et m (List.mem_range.mp hm)]
  have par : ((List.range (2 ^ k)).all fun m => t m != t (2 ^ k - 1 - m)) = true := List.all_eq_true.mpr fun m hm => by
    have := g.dual m (List.mem_range.mp hm)
    unfold co at this
    rw [this]
    cases t m <;> rfl
  rw [call_eq (q := f20) rfl rfl _ rfl]
  simp -implicitDefEqProofs [f20, s_is_within, show (3 : Int) ≤ (k : Int) by omega, show (k : Int) ≤ 6 by omega, s_lots_in T.1 hk]
  rw [e1, s_table_by hk hl hlen, e2]
  have hpar : ∀ {n : Nat} {s : St}, callF P (n + 2) 36 [tabD k t] s = .ok (.bl true) s := fun {n s} => by rw [s_is_parted hk, par]
  simp -implicitDefEqProofs [d_table, hpar, -List.map_map]
  rw [loopC_all (e := lotD) (g := keyM) fun m hm => by simp -implicitDefEqProofs [s_lot_key (hl m hm)]]
  have heq : eqD (.lst ((srt (xs.map (·.1))).map lotD)) (.lst ((grL k t).map lotD)) = some true := by
    rw [gr_srt hk T.2, eqs_lot.lst.eqD (by omega) (fun m hm => gr_lt hk hm) fun m hm => gr_lt hk hm]
    simp
  simp -implicitDefEqProofs [okSort_keys hl, sortZ_keys (gr_nodup.perm T.2.symm) hl, s_greatest_of hk, heq, d_table, d_many, d_greatest, List.lookup, -List.map_map]
theorem s_mk_book {n k : Nat} {t : Nat → Bool} {b : Bool} {xs : TL} {s : St} (g : Good k t) (T : Makes k t xs) : mkD P (callF P (n + 7)) 0 [nI k, sqD b (xs.map tolD)] s = .ok (bookD k t) s := by
  rw [mkD_eq (f := 20) c_book rfl rfl, s_book_init g T]
  simp -implicitDefEqProofs
/-- .. of its greatest lots -/
def grT (k : Nat) (t : Nat → Bool) : TL := (grL k t).map fun m => (m, true, bits m)
theorem makes_gr {k : Nat} {t : Nat → Bool} (g : Good k t) : Makes k t (grT k t) := by
  have e : (grT k t).map (·.1) = grL k t := by unfold grT; rw [List.map_map]; exact List.map_id _
  refine ⟨⟨?_, fun x hx => ?_⟩, by rw [e]⟩
  · unfold grT grL srt
    rw [List.length_map]
    exact Nat.le_trans (List.length_filter_le _ _) (by decide)
  · obtain ⟨m, hm, rfl⟩ := List.mem_map.mp hx
    exact ⟨((mem_gr g.k6).mp hm).1, .refl _⟩
theorem s_mk_gr {n k : Nat} {t : Nat → Bool} {s : St} (g : Good k t) : mkD P (callF P (n + 7)) 0 [nI k, .lst ((grL k t).map lotD)] s = .ok (bookD k t) s := by
  have e : Dat.lst ((grL k t).map lotD) = sqD false ((grT k t).map tolD) := by unfold grT; rw [List.map_map]; rfl
  rw [e]
  exact s_mk_book g (makes_gr g)
theorem f_many {k : Nat} {t : Nat → Bool} : fldD P (bookD k t) 3 = some (nI k) := (rfl)
theorem f_table {k : Nat} {t : Nat → Bool} : fldD P (bookD k t) 4 = some (tabD k t) := (rfl)
theorem f_greatest {k : Nat} {t : Nat → Bool} : fldD P (bookD k t) 5 = some (lotsD (grL k t)) := (rfl)
theorem s_step_by {n k m : Nat} {t : Nat → Bool} {s : St} (g : Good k t) (hm : m < 2 ^ k) (ht : topB k t m = true) : callF P (n + 9) 27 [bookD k t, lotD m] s = .ok (bookD k (stp k t m)) s := by
  have hm6 := lt64 g.k6 hm
  rw [call_eq (q := f27) rfl rfl _ rfl]
  simp -implicitDefEqProofs [f27, f_table, -fldD_ins, s_mask_of hm6]
  rw [storeIx_lst (by simpa using hm), tab_set]
  simp -implicitDefEqProofs [s_mask_of hm6]
  rw [storeIx_back (j := co k m) (by simp; unfold co; omega), tab_set]
  simp -implicitDefEqProofs [f_many, -fldD_ins]
  have e : (fun j => if j = co k m then Dat.bl true else if j = m then Dat.bl false else Dat.bl (t j)) = fun j => Dat.bl (stp k t m j) := by
    funext j
    unfold stp
    by_cases h1 : j = co k m
    · rw [if_pos h1, if_pos h1]
    · rw [if_neg h1, if_neg h1]
      by_cases h2 : j = m
      · rw [if_pos h2, if_pos h2]
      · rw [if_neg h2, if_neg h2]
  rw [e, s_greatest_ofL g.k6]
  simp -implicitDefEqProofs [s_mk_gr (g.stp hm ht)]
theorem s_need_book {n k : Nat} {t : Nat → Bool} {p : Str} {s : St} : callF P (n + 2) 21 [bookD k t, .str p] s = .ok .non s := by
  rw [call_eq (q := f21) rfl rfl _ rfl]
  simp -implicitDefEqProofs [f21, isi_book, isiOk_book]
theorem s_need_books {n k : Nat} {t t' : Nat → Bool} {s : St} : callF P (n + 3) 25 [bookD k t, bookD k t'] s = .ok .non s := by
  rw [call_eq (q := f25) rfl rfl _ rfl]
  simp -implicitDefEqProofs [f25, s_need_book, f_many, -fldD_ins]
theorem eq_lots {k : Nat} {a b : Nat → Bool} (hk : k ≤ 6) : eqD (lotsD (grL k a)) (lotsD (grL k b)) = some (decide (grL k a = grL k b)) := eqs_lot.tup.eqD (by omega) (fun m hm => gr_lt hk hm) fun m hm => gr_lt hk hm
theorem s_eq {n k : Nat} {t t' : Nat → Bool} {s : St} (hk : k ≤ 6) : callF P (n + 2) 48 [bookD k t, bookD k t'] s = .ok (.bl (decide (grL k t = grL k t'))) s := by
  rw [call_eq (q := f48) rfl rfl _ rfl]
  simp -implicitDefEqProofs [f48, isi_book, isiOk_book, f_many, f_greatest, eq_lots hk, -fldD_ins]
theorem o_eq {k j : Nat} {t t' : Nat → Bool} : ownEq P .eq (bookD k t) (bookD j t') = some (48, false) := (rfl)
theorem o_ne {k j : Nat} {t t' : Nat → Bool} : ownEq P .ne (bookD k t) (bookD j t') = some (48, true) := (rfl)
theorem s_short_lots {n k : Nat} {t : Nat → Bool} {s : St} (hk : k ≤ 6) : callF P (n + 3) 44 [bookD k t] s = .ok (lotsD (shL k t)) s := by
  have hB := big_nat (show 2 ^ k ≤ 1000000 by have := pow_le hk; omega)
  have hl : ∀ m ∈ (List.range (2 ^ k)).filter t, m < 64 := fun m hm => lt64 hk (List.mem_range.mp (List.mem_filter.mp hm).1)
  rw [call_eq (q := f44) rfl rfl _ rfl]
  simp -implicitDefEqProofs [f44, f_table, -fldD_ins, hB]
  rw [enum_range, loopC_if (e := fun m => Dat.tup [nI m, Dat.bl (t m)]) (p := t) (g := lotD) fun m hm => by
    simp -implicitDefEqProofs
    cases h : t m <;> simp -implicitDefEqProofs [s_lot_of (lt64 hk (List.mem_range.mp hm))]]
  simp -implicitDefEqProofs
  rw [loopC_all (e := lotD) (g := keyM) fun m hm => by simp -implicitDefEqProofs [s_lot_key (hl m hm)]]
  simp -implicitDefEqProofs [okSort_keys hl, sortZ_keys (List.nodup_range.filter _) hl]
  rfl
theorem m_short : bookC.meths.lookup 0 = some 44 := (rfl)
theorem np_short : npOf P 44 = 1 := (rfl)
theorem s_parted_lots {n k : Nat} {t t' : Nat → Bool} {s : St} (hk : k ≤ 6) : callF P (n + 4) 39 [bookD k t, bookD k t'] s = .ok (.lst (((shL k t).filter fun m => !t' m).map lotD)) s := by
  have hl : ∀ m ∈ shL k t, m < 2 ^ k := fun m hm => ((mem_sh hk).mp hm).1
  have hB := big_nat (show (shL k t).length ≤ 1000000 by unfold shL srt; exact Nat.le_trans (List.length_filter_le _ _) (by decide))
  rw [call_eq (q := f39) rfl rfl _ rfl]
  simp -implicitDefEqProofs [f39, c_book, m_short, np_short, s_short_lots hk, List.lookup, hB]
  rw [loopC_if (e := lotD) (p := fun m => !t' m) (g := lotD) fun m hm => by
    simp -implicitDefEqProofs [d_table, s_mask_of (lt64 hk (hl m hm)), ix_tab (hl m hm), List.lookup]
    cases t' m <;> simp -implicitDefEqProofs]
  simp -implicitDefEqProofs
theorem s_neighbours {n k : Nat} {t : Nat → Bool} {s : St} (g : Good k t) : callF P (n + 10) 29 [bookD k t] s = .ok (.tup ((grL k t).map fun m => bookD k (stp k t m))) s := by
  have hB := big_nat (show (grL k t).length ≤ 1000000 by unfold grL srt; exact Nat.le_trans (List.length_filter_le _ _) (by decide))
  rw [call_eq (q := f29) rfl rfl _ rfl]
  simp -implicitDefEqProofs [f29, s_need_book, f_greatest, -fldD_ins, hB]
  rw [loopC_all (e := lotD) (g := fun m => bookD k (stp k t m)) fun m hm => by
    obtain ⟨h1, h2⟩ := (mem_gr g.k6).mp hm
    simp -implicitDefEqProofs [s_step_by g h1 h2]]
  simp -implicitDefEqProofs
end I81m

set_option linter.all false
set_option maxRecDepth 100000
set_option maxHeartbeats 2000000
namespace I81m
open Z (Dat Cell St Env Res opt view raw settle live BOp COp big binop toPy toPys shapedO eqD isInts inD isStr isNonD cmpop truth ixD ixL cut slD BI LM PM CR Tgt HE IE IT It IS FunI ClsI Prog bindT wipeE tyIs isiD npOf plainC isiOk ownEq datC fldD belowC excQ hasFld evH evHs isBls isStrs isTupD seqOf maxI minI cmpD ltD encD isT1 isN0 okP okSort sortD sortZ biD bi2D rngOk rngD joinD pmD pmT isLst lmD fmtD keyD valD putD setIxD putK permD loopC Fl loopF loopW Fun setAll ev evT evs evD evF evO evI exS exB parG storeFld storeIx runF callF REx)
open PySem (Str PyData)
open Z.Res
open ME I81
theorem s_fixed_int {n : Nat} {i : Int} {s : St} : callF P (n + 2) 45 [.int i] s = .ok (.int i) s := by
  rw [call_eq (q := f45) rfl rfl _ rfl]
  simp -implicitDefEqProofs [f45, isiOk, isiD, tyIs]
theorem s_fixed_lot {n : Nat} {b : Bool} {l : List Nat} {s : St} (h : l.length ≤ 1000) : callF P (n + 3) 45 [sqD b (l.map nI)] s = .ok (tupN l) s := by
  have hB := big_nat (show l.length ≤ 1000000 by omega)
  rw [call_eq (q := f45) rfl rfl _ rfl]
  simp -implicitDefEqProofs [f45, hB]
  rw [loopC_all (e := nI) (g := nI) fun i hi => by simp -implicitDefEqProofs [s_fixed_int]]
  simp -implicitDefEqProofs
theorem s_fixed_lots {n : Nat} {b : Bool} {l : List Nat} {s : St} (h : l.length ≤ 1000) : callF P (n + 4) 45 [sqD b (l.map lotD)] s = .ok (lotsD l) s := by
  have hB := big_nat (show l.length ≤ 1000000 by omega)
  rw [call_eq (q := f45) rfl rfl _ rfl]
  simp -implicitDefEqProofs [f45, hB]
  rw [loopC_all (e := lotD) (g := lotD) fun m hm => by
    have := s_fixed_lot (n := n) (b := true) (l := bits m) (s := s) (by have := bits_len (m := m); omega)
    have this : callF P (n + 2 + 1) 45 [Dat.tup ((bits m).map nI)] s = .ok (tupN (bits m)) s := this
    simp -implicitDefEqProofs [this]]
  simp -implicitDefEqProofs
theorem s_fixed_parts {n : Nat} {b : Bool} {l : List Nat} {s : St} (h : l.length ≤ 1000) : callF P (n + 5) 45 [.tup [sqD b (l.map lotD)]] s = .ok (.tup [lotsD l]) s := by
  rw [call_eq (q := f45) rfl rfl _ rfl]
  simp -implicitDefEqProofs [f45, isiOk, isiD, tyIs]
  rw [show [sqD b (List.map lotD l)] = [l].map (fun l => sqD b (List.map lotD l)) from rfl, loopC_all (e := fun l => sqD b (List.map lotD l)) (g := lotsD) fun x hx => by
    have : x = l := by simpa using hx
    subst this
    simp -implicitDefEqProofs [s_fixed_lots h]]
  simp -implicitDefEqProofs
theorem d_word : datC P 4 8 = true := (rfl)
theorem d_parts : datC P 4 7 = true := (rfl)
theorem d_lots : datC P 4 1 = true := (rfl)
def stepsC : ClsI := (clss[4]?).getD {}
theorem c_steps : P.clss[4]? = some stepsC := (rfl)
abbrev stepsD (l : List Nat) : Dat := .ins 4 [(8, .str (Str.ofString "steps")), (7, .tup [lotsD l]), (1, lotsD l)]
theorem s_paper_init {n : Nat} {b : Bool} {l : List Nat} {w : Str} {s : St} (h : l.length ≤ 1000) : callF P (n + 6) 40 [.obj s.length, .str w, .tup [sqD b (l.map lotD)]] (s ++ [.ins 4 []]) = .ok .non (s ++ [.ins 4 [(8, .str w), (7, .tup [lotsD l])]]) := by
  rw [call_eq (q := f40) rfl rfl _ rfl]
  simp -implicitDefEqProofs [f40, d_word, d_parts, s_fixed_parts h]
theorem s_steps_init {n : Nat} {b : Bool} {l : List Nat} {d : Dat} {s s1 : St} (h : l.length ≤ 1000) (hset : ∀ r, settle d (s ++ r) = .ok (sqD b (l.map lotD)) (s1 ++ r)) (hlen : s1.length = s.length) : callF P (n + 8) 24 [.obj s.length, d] (s ++ [.ins 4 []]) = .ok .non (s1 ++ [.ins 4 [(8, .str (Str.ofString "steps")), (7, .tup [lotsD l]), (1, lotsD l)]]) := by
  rw [call_eq (q := f24) rfl rfl _ rfl]
  simp -implicitDefEqProofs [f24, hset]
  rw [← hlen, s_paper_init h]
  simp -implicitDefEqProofs [d_word, d_parts, d_lots, List.lookup, ← hlen]
theorem s_mk_steps' {n : Nat} {b : Bool} {l : List Nat} {d : Dat} {s s1 : St} (h : l.length ≤ 1000) (hset : ∀ r, settle d (s ++ r) = .ok (sqD b (l.map lotD)) (s1 ++ r)) (hlen : s1.length = s.length) : mkD P (callF P (n + 8)) 4 [d] s = .ok (stepsD l) s1 := by
  rw [mkD_eq (f := 24) c_steps rfl rfl, s_steps_init h hset hlen]
  simp -implicitDefEqProofs [← hlen]
theorem s_mk_steps {n : Nat} {b : Bool} {l : List Nat} {s : St} (h : l.length ≤ 1000) : mkD P (callF P (n + 8)) 4 [sqD b (l.map lotD)] s = .ok (stepsD l) s := s_mk_steps' h (fun _ => settle_sq) rfl
theorem s_mk_stepsL {n : Nat} {l : List Nat} {s : St} (h : l.length ≤ 1000) : mkD P (callF P (n + 8)) 4 [.obj s.length] (s ++ [.lst (l.map lotD)]) = .ok (stepsD l) (s ++ [.froz (.lst (l.map lotD))]) := by
  have g1 : ∀ {α : Type} {s r : List α} {c : α}, (s ++ [c] ++ r)[s.length]? = some c := fun {α s r c} => by simp
  refine s_mk_steps' (b := false) h (fun r => ?_) (by simp)
  rw [settle_obj g1 fun _ h => by cases h]
  simp
  rfl
theorem s_majority {n k : Nat} {a b c : Nat → Bool} {s : St} (ha : Good k a) (hb : Good k b) (hc : Good k c) : callF P (n + 9) 7 [bookD k a, bookD k b, bookD k c] s = .ok (bookD k (maj a b c)) s := by
  rw [call_eq (q := f7) rfl rfl _ rfl]
  have hB := big_nat (show 2 ^ k ≤ 1000000 by have := pow_le ha.k6; omega)
  simp -implicitDefEqProofs [f7, s_need_book, f_many, f_table, -fldD_ins]
  rw [zip3_map]
  simp -implicitDefEqProofs [hB]
  rw [loopC_all (e := fun m => Dat.tup [.bl (a m), .bl (b m), .bl (c m)]) (g := fun m => Dat.bl (maj a b c m)) fun m hm => by
    simp -implicitDefEqProofs [sum3, maj]
    cases a m <;> cases b m <;> cases c m <;> rfl]
  simp -implicitDefEqProofs [f_many, s_greatest_of ha.k6, s_mk_gr (ha.maj hb hc), -fldD_ins]
theorem s_steps_loop {n k : Nat} {A b : Nat → Bool} {s : St} (hb : Good k b) : ∀ (d fuel : Nat) (h : Nat → Bool) (pre : List Nat), Good k h → dist k h b = d → d < fuel → pre.length + d ≤ 1000 →
    ∃ h' l, loopW (evT P (callF P (n + 10)) (callF P (n + 9)) (IT.val (IE.cmp COp.ne (IE.var 2) (IE.var 1))))
      (exB P (callF P (n + 10)) (callF P (n + 9)) [IS.expr (IE.lm LM.append (IE.var 3) [((IE.var 4).comp (Tgt.name 4) (It.val ((IE.var 2).fld 5)) (some (IT.val (((IE.var 1).fld 4).ix (IE.call 26 [IE.var 4] [Sum.inl 0]))).not_) [4]).ix (IE.const (Dat.int 0))]),
        IS.asg 2 false (IE.call 27 [IE.var 2, (IE.var 3).ix (IE.const (Dat.int 1)).neg] [Sum.inl 0, Sum.inl 1])])
      fuel [some (bookD k A), some (bookD k b), some (bookD k h), some (.obj s.length), none] (s ++ [.lst (pre.map lotD)]) = .ok (.nx, [some (bookD k A), some (bookD k b), some (bookD k h'), some (.obj s.length), none]) (s ++ [.lst ((pre ++ l).map lotD)]) ∧ l.length = d ∧ path k h l b := by
  intro d
  induction d with
  | zero =>
    intro fuel h pre gh hd hf hl
    obtain ⟨fuel, rfl⟩ : ∃ f, fuel = f + 1 := ⟨fuel - 1, by omega⟩
    have e := (dist_zero gh hb).mp hd
    refine ⟨h, [], ?_, rfl, e⟩
    have hs : ∀ {s : St}, callF P (n + 9) 48 [bookD k h, bookD k b] s = .ok (.bl true) s := fun {s} => by rw [s_eq hb.k6, decide_eq_true (gr_congr e)]
    unfold loopW
    simp -implicitDefEqProofs [o_ne, hs]
  | succ d ih =>
    intro fuel h pre gh hd hf hl
    obtain ⟨fuel, rfl⟩ : ∃ f, fuel = f + 1 := ⟨fuel - 1, by omega⟩
    have hne : ¬ grL k h = grL k b := fun e => by
      have := (dist_zero gh hb).mpr (gr_inj gh hb e)
      omega
    obtain ⟨g0, g1, g2⟩ := some_step gh hb fun e => hne (gr_congr e)
    have hmem : g0 ∈ (grL k h).filter fun m => !b m := List.mem_filter.mpr ⟨g1, by simp [g2]⟩
    obtain ⟨g, r, eg⟩ : ∃ g r, (grL k h).filter (fun m => !b m) = g :: r := by
      cases e : (grL k h).filter fun m => !b m with
      | nil => rw [e] at hmem; cases hmem
      | cons g r => exact ⟨g, r, rfl⟩
    have hg : g ∈ grL k h ∧ b g = false := by
      have : g ∈ (grL k h).filter fun m => !b m := by rw [eg]; exact List.mem_cons_self
      obtain ⟨h1, h2⟩ := List.mem_filter.mp this
      exact ⟨h1, by simpa using h2⟩
    obtain ⟨q1, q2⟩ := (mem_gr gh.k6).mp hg.1
    have hd' : dist k (stp k h g) b = d := by
      have := dist_stp gh hb q1 (topB_iff.mp q2).1 hg.2
      omega
    obtain ⟨h', l, e1, e2, e3⟩ := ih fuel (stp k h g) (pre ++ [g]) (gh.stp q1 q2) hd' (by omega) (by simp; omega)
    refine ⟨h', g :: l, ?_, by simp [e2], hg.1, e3⟩
    have hB := big_nat (show (grL k h).length ≤ 1000000 by unfold grL srt; exact Nat.le_trans (List.length_filter_le _ _) (by decide))
    have happ : (List.map lotD pre).length < 16777216 := by rw [List.length_map]; omega
    have hs : ∀ {s : St}, callF P (n + 9) 48 [bookD k h, bookD k b] s = .ok (.bl false) s := fun {s} => by rw [s_eq hb.k6, decide_eq_false hne]
    unfold loopW
    simp -implicitDefEqProofs [o_ne, hs, f_greatest, hB, -fldD_ins]
    rw [loopC_if (e := lotD) (p := fun m => !b m) (g := lotD) fun m hm => by
      simp -implicitDefEqProofs [f_table, s_mask_of (gr_lt gh.k6 hm), ix_tab ((mem_gr gh.k6).mp hm).1, -fldD_ins]
      cases b m <;> simp -implicitDefEqProofs]
    rw [eg]
    simp -implicitDefEqProofs [lmD_append happ, ix_last, s_step_by gh q1 q2]
    simp only [List.map_append, List.map_cons, List.map_nil, List.append_assoc, List.cons_append, List.nil_append] at e1
    exact e1
theorem dist_small {k : Nat} {a b : Nat → Bool} (hk : k ≤ 6) : dist k a b ≤ 64 := by
  unfold dist
  rw [← cnt_len]
  have := List.length_filter_le (fun m => a m && !b m) (List.range (2 ^ k))
  rw [List.length_range] at this
  have := pow_le hk
  omega
theorem s_steps_between {n k : Nat} {a b : Nat → Bool} {s : St} (ha : Good k a) (hb : Good k b) : ∃ l : List Nat, callF P (n + 11) 10 [bookD k a, bookD k b] s = .ok (stepsD l) s ∧ l.length = dist k a b ∧ path k a l b := by
  have hd := dist_small (a := a) (b := b) ha.k6
  obtain ⟨h', l, e1, e2, e3⟩ := s_steps_loop (n := n) (A := a) (s := s) hb (dist k a b) 100000 a [] ha rfl (by omega) (by simp; omega)
  refine ⟨l, ?_, e2, e3⟩
  rw [call_eq (q := f10) rfl rfl _ rfl]
  simp -implicitDefEqProofs [f10, s_need_books, setAll]
  rw [List.nil_append] at e1
  erw [e1]
  simp -implicitDefEqProofs [s_mk_stepsL (show l.length ≤ 1000 by omega)]
end I81m

set_option linter.all false
set_option maxRecDepth 100000
set_option maxHeartbeats 2000000
namespace I81m
open Z (Dat Cell St Env Res opt view raw settle live BOp COp big binop toPy toPys shapedO eqD isInts inD isStr isNonD cmpop truth ixD ixL cut slD BI LM PM CR Tgt HE IE IT It IS FunI ClsI Prog bindT wipeE tyIs isiD npOf plainC isiOk ownEq datC fldD belowC excQ hasFld evH evHs isBls isStrs isTupD seqOf maxI minI cmpD ltD encD isT1 isN0 okP okSort sortD sortZ biD bi2D rngOk rngD joinD pmD pmT isLst lmD fmtD keyD valD putD setIxD putK permD loopC Fl loopF loopW Fun setAll ev evT evs evD evF evO evI exS exB parG storeFld storeIx runF callF REx)
open PySem (Str PyData)
open Z.Res
open ME I81
theorem s_is_lot {n m : Nat} {s : St} (hm : m < 64) : callF P (n + 4) 43 [lotD m] s = .ok (.bl true) s := by
  have hl := bits_len (m := m)
  have hB := big_nat (show (bits m).length ≤ 1000000 by omega)
  have hB2 := big_nat (show ((cut (bits m) none (some (-1))).zip (cut (bits m) (some 1) none)).length ≤ 1000000 by have := asc_len hm; omega)
  have hn := s_is_numbers (n := n) (b := true) (l := bits m) (s := s) (by omega)
  have hn : callF P (n + 3) 28 [Dat.tup ((bits m).map nI)] s = .ok (.bl true) s := hn
  rw [call_eq (q := f43) rfl rfl _ rfl]
  simp -implicitDefEqProofs [f43, hn, hB]
  rw [loopC_all (e := nI) (g := fun i => Dat.bl true) fun i hi => by simp -implicitDefEqProofs]
  simp -implicitDefEqProofs [bi_all, cut_map, -List.map_map]
  rw [zip2_map]
  rw [List.length_zip] at hB2
  rw [if_pos hB2]
  rw [loopC_all (e := fun p : Nat × Nat => Dat.tup [nI p.1, nI p.2]) (g := fun p => Dat.bl (decide (p.1 < p.2))) fun p hp => by simp -implicitDefEqProofs]
  simp -implicitDefEqProofs
  rw [bi_all, asc64 hm]
  simp -implicitDefEqProofs
theorem s_are_lots {n k : Nat} {l : List Nat} {s : St} (hk : k ≤ 6) (hl : ∀ m ∈ l, m < 2 ^ k) (h : l.length ≤ 1000) : callF P (n + 5) 38 [lotsD l, nI k] s = .ok (.bl true) s := by
  have hB := big_nat (show l.length ≤ 1000000 by omega)
  rw [call_eq (q := f38) rfl rfl _ rfl]
  simp -implicitDefEqProofs [f38, isiOk, isiD, tyIs, hB]
  rw [loopC_all (e := lotD) (g := fun m => Dat.bl true) fun m hm => by
    have hB2 := big_nat (show (bits m).length ≤ 1000000 by have := bits_len (m := m); omega)
    simp -implicitDefEqProofs [s_is_lot (lt64 hk (hl m hm)), hB2]
    rw [loopC_all (e := nI) (g := fun i => Dat.bl true) fun i hi => by
      have : i < k := bit_lt (hl m hm) (bits_mem.mp hi).2
      simp -implicitDefEqProofs [show (i : Int) < (k : Int) by omega]]
    simp -implicitDefEqProofs [bi_all]]
  simp -implicitDefEqProofs [bi_all]
theorem isi_steps {fs : List (Nat × Dat)} : isiD P (.ins 4 fs) (.own 4) = true := (rfl)
theorem isiOk_steps {fs : List (Nat × Dat)} : isiOk P (.ins 4 fs) = true := (rfl)
theorem f_lots {l : List Nat} : fldD P (stepsD l) 1 = some (lotsD l) := (rfl)
theorem parted_len {k : Nat} {a b : Nat → Bool} (hk : k ≤ 6) : ((shL k a).filter fun m => !b m).length = dist k a b := by
  have hp : (shL k a).Perm ((List.range (2 ^ k)).filter a) := srt_perm (List.nodup_range.filter _) fun m hm => lt64 hk (List.mem_range.mp (List.mem_filter.mp hm).1)
  rw [(hp.filter _).length_eq, List.filter_filter, cnt_len]
  unfold dist
  congr 1
  funext m
  rw [Bool.and_comm]
theorem path_lt {k : Nat} {b : Nat → Bool} (hk : k ≤ 6) : ∀ {l : List Nat} {a : Nat → Bool}, path k a l b → ∀ m ∈ l, m < 2 ^ k
  | [], _, _, _, h => by cases h
  | g :: l, a, p, m, h => by
    rcases List.mem_cons.mp h with rfl | h
    · exact ((mem_gr hk).mp p.1).1
    · exact path_lt hk p.2 m h
theorem s_shows_steps {n k : Nat} {a b : Nat → Bool} {l : List Nat} {s : St} (ha : Good k a) (hb : Good k b) (hp : path k a l b) (hl : l.length = dist k a b) : callF P (n + 11) 23 [bookD k a, bookD k b, stepsD l] s = .ok (.bl true) s := by
  have hd := dist_small (a := a) (b := b) ha.k6
  have ha2 := s_are_lots (n := n + 5) (s := s) ha.k6 (path_lt ha.k6 hp) (by omega)
  have ha2 : callF P (n + 10) 38 [Dat.tup (l.map lotD), nI k] s = .ok (.bl true) s := ha2
  have hpl := s_parted_lots (n := n + 6) (t := a) (t' := b) (s := s) ha.k6
  have hpl : callF P (n + 10) 39 [bookD k a, bookD k b] s = .ok (.lst (((shL k a).filter fun m => !b m).map lotD)) s := hpl
  have hle : (((shL k a).filter fun m => !b m).map lotD).length = l.length := by rw [List.length_map, parted_len ha.k6, hl]
  rw [call_eq (q := f23) rfl rfl _ rfl]
  simp -implicitDefEqProofs [f23, s_need_books, isi_steps, isiOk_steps, f_lots, f_many, -fldD_ins, ha2, hpl, hle]
  refine fin_loop (e := lotD) (xs := l) (fun r δ s' => ∃ h x, Good k h ∧ path k h r b ∧ δ = [some (bookD k a), some (bookD k b), some (stepsD l), some (bookD k h), x] ∧ s' = s) ⟨a, none, ha, hp, rfl, rfl⟩ ?_ ?_
  · rintro δ' s' ⟨h, x, gh, p, rfl, rfl⟩
    have hs : ∀ {s : St}, callF P (n + 9) 48 [bookD k h, bookD k b] s = .ok (.bl true) s := fun {s} => by rw [s_eq (n := n + 7) hb.k6, decide_eq_true (gr_congr p)]
    simp -implicitDefEqProofs [o_eq, hs]
  · rintro m r δ s' ⟨h, x, gh, p, rfl, rfl⟩
    obtain ⟨q1, q2⟩ := (mem_gr gh.k6).mp p.1
    refine ⟨[some (bookD k a), some (bookD k b), some (stepsD l), some (bookD k (stp k h m)), some (lotD m)], s', ?_, stp k h m, _, gh.stp q1 q2, p.2, rfl, rfl⟩
    have hin : inD (lotD m) (lotsD (grL k h)) = some true := by
      rw [eqs_lot.inT (by omega) (gr_lt gh.k6 p.1) fun m hm => gr_lt gh.k6 hm, decide_eq_true p.1]
    simp -implicitDefEqProofs [f_greatest, hin, s_step_by gh q1 q2, -fldD_ins]
end I81m

set_option linter.all false
set_option maxRecDepth 100000
set_option maxHeartbeats 2000000
namespace I81m
open Z (Dat Cell St Env Res opt view raw settle live BOp COp big binop toPy toPys shapedO eqD isInts inD isStr isNonD cmpop truth ixD ixL cut slD BI LM PM CR Tgt HE IE IT It IS FunI ClsI Prog bindT wipeE tyIs isiD npOf plainC isiOk ownEq datC fldD belowC excQ hasFld evH evHs isBls isStrs isTupD seqOf maxI minI cmpD ltD encD isT1 isN0 okP okSort sortD sortZ biD bi2D rngOk rngD joinD pmD pmT isLst lmD fmtD keyD valD putD setIxD putK permD loopC Fl loopF loopW Fun setAll ev evT evs evD evF evO evI exS exB parG storeFld storeIx runF callF REx)
open PySem (Str PyData)
open Z.Res
open ME I81
theorem s_lot {n m : Nat} {h : Hat} {t : St} (hm : 0 < m) (hm2 : m ≤ 100000) (hb : h.at_ ≤ 100000) : ∃ r h', callF P (n + 2) 4 [.obj 0, nI m] (hatC h :: t) = .ok (nI r) (hatC h' :: t) ∧ r < m ∧ h'.at_ ≤ h.at_ + 1 := by
  have key : ∃ v h', callF P (n + 2) 4 [.obj 0, nI m] (hatC h :: t) = .ok (.int v) (hatC h' :: t) ∧ (0 ≤ v ∧ v < m) ∧ h'.at_ ≤ h.at_ + 1 := by
    have m0 : (0 : Int) < (m : Int) := by omega
    have mm : ∀ v : Int, 0 ≤ v % (m : Int) ∧ v % (m : Int) < m := fun v => ⟨Int.emod_nonneg _ (by omega), Int.emod_lt_of_pos _ m0⟩
    rw [call_eq (q := f4) rfl rfl _ rfl]
    by_cases hl : 0 < h.left
    · refine ⟨h.left % m, ⟨h.cells, h.at_, h.left / m⟩, ?_, mm _, by simp⟩
      simp -implicitDefEqProofs [f4, hl, bo_mod m0, bo_fdiv m0 (show (m : Int) < 1073741824 by omega), storeIx_hat2]
    · have e1 : ∀ c, Dat.int ((c % 2147483587 + 90023 * (h.at_ : Int) + 10069) ^ 5 % 2147483647) = Dat.int (mix1 c h.at_) := fun c => rfl
      have e2 : ∀ c, Dat.int ((mix1 c h.at_ * (2 * (h.at_ : Int) + 3011) + 86011 * (h.at_ : Int) * (h.at_ : Int) + 90023) ^ 3 % 2147483549) = Dat.int (mix2 c h.at_) := fun c => rfl
      by_cases hc : h.cells = []
      · have hq : eqD (.lst (h.cells.map .int)) (.lst []) = some true := by rw [hc]; rfl
        refine ⟨(mix2 (86011 * (h.at_ : Int) + 10069) h.at_ / 32) % m, ⟨h.cells, h.at_ + 1, h.left⟩, ?_, mm _, by simp⟩
        simp -implicitDefEqProofs [f4, hl, storeIx_hat1, hq, bo_mul, show ¬ (h.at_ : Int) < (h.cells.length : Int) by rw [hc]; simp, bo_mod, mix1_ok hb, e1, mix_mul, sq_mul hb, mix2_ok hb, e2, bo_fdiv, hm]
      · have hq : eqD (.lst (h.cells.map .int)) (.lst []) = some false := by
          have := eqs_int.lst.eqD (a := h.cells) (b := []) (by omega) (fun _ _ => trivial) (fun _ _ => trivial)
          rw [decide_eq_false hc] at this
          exact this
        have hlen : 0 < h.cells.length := List.length_pos_iff.mpr hc
        obtain ⟨c, hix⟩ := ix_int (l := h.cells) (i := (h.at_ : Int) % (h.cells.length : Int)) (Int.emod_nonneg _ (by omega)) (Int.emod_lt_of_pos _ (by omega))
        by_cases hg : (h.at_ : Int) < (h.cells.length : Int) ∧ 1000000000000000000 ≤ (if c < 0 then -c else c)
        · refine ⟨((if c < 0 then -c else c) - 1000000000000000000) % m, ⟨h.cells, h.at_ + 1, ((if c < 0 then -c else c) - 1000000000000000000) / m⟩, ?_, mm _, by simp⟩
          simp -implicitDefEqProofs [f4, hl, storeIx_hat1, hq, bo_mul, bo_mod, hix, hlen, hg.1, hg.2, p18, hm, bo_fdiv, show (m : Int) < 1073741824 by omega, storeIx_hat2]
        · refine ⟨(mix2 c h.at_ / 32) % m, ⟨h.cells, h.at_ + 1, h.left⟩, ?_, mm _, by simp⟩
          by_cases hg1 : (h.at_ : Int) < (h.cells.length : Int)
          · have hg2 : ¬ 1000000000000000000 ≤ (if c < 0 then -c else c) := fun z => hg ⟨hg1, z⟩
            simp -implicitDefEqProofs [f4, hl, storeIx_hat1, hq, bo_mul, bo_mod, hix, hlen, p18, hm, hg1, hg2, mix1_ok hb, e1, mix_mul, sq_mul hb, mix2_ok hb, e2, bo_fdiv]
          · simp -implicitDefEqProofs [f4, hl, storeIx_hat1, hq, bo_mul, bo_mod, hix, hlen, p18, hm, hg1, mix1_ok hb, e1, mix_mul, sq_mul hb, mix2_ok hb, e2, bo_fdiv]
  obtain ⟨v, h', e, ⟨v0, v1⟩, hb'⟩ := key
  obtain ⟨r, rfl⟩ : ∃ r : Nat, v = r := ⟨v.toNat, by omega⟩
  exact ⟨r, h', e, by omega, hb'⟩
theorem s_one {n : Nat} {b : Bool} {xs : List Dat} {h : Hat} {t : St} (h0 : 0 < xs.length) (hl : xs.length ≤ 100000) (hx : ∀ x ∈ xs, isC x = true) (hb : h.at_ ≤ 100000) :
    ∃ x h', x ∈ xs ∧ callF P (n + 3) 2 [.obj 0, sqD b xs] (hatC h :: t) = .ok x (hatC h' :: t) ∧ h'.at_ ≤ h.at_ + 1 := by
  obtain ⟨r, h', e, hr, hb'⟩ := s_lot (n := n) (t := t) h0 hl hb
  have hm : xs[r] ∈ xs := List.getElem_mem hr
  refine ⟨xs[r], h', hm, ?_, hb'⟩
  have hc := hx _ hm
  rw [call_eq (q := f2) rfl rfl _ rfl]
  simp -implicitDefEqProofs [f2, e, ix_sq (List.getElem?_eq_getElem hr), settle_c hc, fin_rt hc]
theorem s_mixed {n : Nat} {b : Bool} {xs : List Dat} {h : Hat} {t : St} (hl : xs.length ≤ 1000) (hx : ∀ x ∈ xs, isC x = true) (hb : h.at_ + xs.length ≤ 100000) :
    ∃ ys h', ys.Perm xs ∧ callF P (n + 3) 11 [.obj 0, sqD b xs] (hatC h :: t) = .ok (.lst ys) (hatC h' :: t) ∧ h'.at_ ≤ h.at_ + xs.length := by
  rw [call_eq (q := f11) rfl rfl _ rfl]
  simp -implicitDefEqProofs [f11]
  refine loop_id (fun r => ∃ ys, ys.Perm xs ∧ ∃ x, fin (r.bnd _) (hatC h :: t) = .ok (.lst ys) (hatC x :: t) ∧ x.at_ ≤ h.at_ + xs.length)
    (fun r δ s' => ∃ pre ys a g, xs = pre ++ r ∧ ys.Perm pre ∧ δ = [some (.obj 0), some (sqD b xs), some (.obj (t.length + 1)), a] ∧ s' = hatC g :: (t ++ [.lst ys]) ∧ g.at_ ≤ h.at_ + pre.length) ⟨[], [], none, h, rfl, .nil, rfl, rfl, Nat.le_refl _⟩ ?_ ?_
  · rintro δ' s' ⟨pre, ys, a, g, hp, hpe, rfl, rfl, hg⟩
    rw [List.append_nil] at hp
    subst hp
    exact ⟨ys, hpe, g, by simp -implicitDefEqProofs, hg⟩
  · rintro x r δ s' ⟨pre, ys, a, g, hp, hpe, rfl, rfl, hg⟩
    have hlen : pre.length + 1 ≤ xs.length := by rw [hp, List.length_append, List.length_cons]; omega
    have hxc : isC x = true := hx x (by rw [hp]; simp)
    have hyl := hpe.length_eq
    obtain ⟨i, g', e, hi, hg'⟩ := s_lot (n := n) (m := ys.length + 1) (h := g) (t := t ++ [.lst ys]) (by omega) (by omega) (by omega)
    have e : callF P (n + 2) 4 [.obj 0, .int ((ys.length : Int) + 1)] (hatC g :: (t ++ [.lst ys])) = .ok (nI i) (hatC g' :: (t ++ [.lst ys])) := e
    refine ⟨[some (.obj 0), some (sqD b xs), some (.obj (t.length + 1)), some x], hatC g' :: (t ++ [.lst (ys.take i ++ x :: ys.drop i)]), ?_, pre ++ [x], _, _, g', by rw [hp, List.append_assoc]; rfl, ?_, rfl, rfl, by simp; omega⟩
    · simp -implicitDefEqProofs [e, settle_c hxc, lmD_insert (show ys.length < 16777216 by omega) (show i ≤ ys.length by omega)]
    · refine insert_perm.trans ?_
      exact ((List.Perm.cons x hpe)).trans (List.perm_append_comm (l₁ := [x]) (l₂ := pre))
theorem s_others {n k m : Nat} {s : St} (hk : k ≤ 6) (hm : m < 2 ^ k) : callF P (n + 2) 30 [lotD m, nI k] s = .ok (lotD (co k m)) s := by
  have hB := big_nat (show k ≤ 1000000 by omega)
  rw [call_eq (q := f30) rfl rfl _ rfl]
  simp -implicitDefEqProofs [f30, rngOk_nat (show k ≤ 1000000 by omega), hB]
  rw [loopC_if (e := nI) (p := fun i => decide (i ∉ bits m)) (g := nI) fun i hi => by
    have := eqs_nat.inT (a := i) (l := bits m) (by omega) trivial fun _ _ => trivial
    simp -implicitDefEqProofs [this]
    by_cases q : i ∈ bits m <;> simp -implicitDefEqProofs [q]]
  have e : (List.range k).filter (fun i => decide (i ∉ bits m)) = bits (co k m) := by
    have := List.all_eq_true.mp co_bits k (List.mem_range.mpr (by omega))
    exact of_decide_eq_true (List.all_eq_true.mp this m (List.mem_range.mpr hm))
  rw [e]
  simp -implicitDefEqProofs
theorem s_lies {n a b : Nat} {s : St} (ha : a < 64) (hb : b < 64) : callF P (n + 2) 31 [lotD a, lotD b] s = .ok (.bl (sub a b)) s := by
  have hB := big_nat (show (bits a).length ≤ 1000000 by have := bits_len (m := a); omega)
  rw [call_eq (q := f31) rfl rfl _ rfl]
  simp -implicitDefEqProofs [f31, hB]
  rw [loopC_if (e := nI) (p := fun i => !decide (i ∈ bits b)) (g := nI) fun i hi => by
    have := eqs_nat.inT (a := i) (l := bits b) (by omega) trivial fun _ _ => trivial
    simp -implicitDefEqProofs [this]
    by_cases q : i ∈ bits b <;> simp -implicitDefEqProofs [q]]
  have e := eqs_nat.lst.eqD (a := (bits a).filter fun i => !decide (i ∈ bits b)) (b := []) (by omega) (fun _ _ => trivial) (fun _ _ => trivial)
  have e2 : decide ((bits a).filter (fun i => !decide (i ∈ bits b)) = []) = sub a b := by
    have := all64b (p := fun a b => decide ((bits a).filter (fun i => !decide (i ∈ bits b)) = []) == sub a b) (by decide +kernel) ha hb
    simpa only [beq_iff_eq] using this
  rw [e2] at e
  have e : eqD (.lst (((bits a).filter fun i => !decide (i ∈ bits b)).map nI)) (.lst []) = some (sub a b) := e
  simp -implicitDefEqProofs [e]
theorem bits_add {i m : Nat} (hi : i < 6) (hm : m < 2 ^ i) : bits (m + 2 ^ i) = bits m ++ [i] := by
  have : ((List.range 6).all fun i => (List.range (2 ^ i)).all fun m => decide (bits (m + 2 ^ i) = bits m ++ [i])) = true := by decide +kernel
  exact of_decide_eq_true (List.all_eq_true.mp (List.all_eq_true.mp this i (List.mem_range.mpr hi)) m (List.mem_range.mpr hm))
theorem range_pow {i : Nat} : List.range (2 ^ (i + 1)) = List.range (2 ^ i) ++ (List.range (2 ^ i)).map (· + 2 ^ i) := by
  rw [Nat.pow_succ, Nat.mul_two, List.range_add]
  congr 1
  exact List.map_congr_left fun m _ => Nat.add_comm _ _
theorem s_lots {n k : Nat} {s : St} (hk : k ≤ 6) : callF P (n + 2) 19 [nI k] s = .ok (.lst ((shL k fun _ => true).map lotD)) s := by
  have hl : ∀ m ∈ List.range (2 ^ k), m < 64 := fun m hm => lt64 hk (List.mem_range.mp hm)
  have hB := big_nat (show 2 ^ k ≤ 1000000 by have := pow_le hk; omega)
  rw [call_eq (q := f19) rfl rfl _ rfl]
  simp -implicitDefEqProofs [f19, rngOk_nat (show k ≤ 1000000 by omega)]
  refine fin_loop (e := nI) (xs := List.range k) (fun r δ s' => ∃ i a, List.range k = List.range i ++ r ∧ δ = [some (nI k), some (.lst ((List.range (2 ^ i)).map lotD)), a, none, none] ∧ s' = s) ⟨0, none, rfl, rfl, rfl⟩ ?_ ?_
  · rintro δ' s' ⟨i, a, hp, rfl, rfl⟩
    rw [List.append_nil] at hp
    have hi : i = k := by
      have := congrArg List.length hp
      simpa using this.symm
    subst hi
    simp -implicitDefEqProofs [hB]
    rw [loopC_all (e := lotD) (g := keyM) fun m hm => by simp -implicitDefEqProofs]
    have hs : biD .sorted (.lst ((List.range (2 ^ i)).map keyM)) = some (.fl ((srt (List.range (2 ^ i))).map keyM)) := by
      show (if okSort _ then some (Dat.fl (sortD _)) else none) = _
      rw [okSort_keys hl, if_pos rfl, sortD_keys List.nodup_range hl]
    have hB2 := big_nat (show (srt (List.range (2 ^ i))).length ≤ 1000000 by unfold srt; exact Nat.le_trans (List.length_filter_le _ _) (by decide))
    simp -implicitDefEqProofs [hs, hB2]
    rw [loopC_all (e := keyM) (g := lotD) fun m hm => by simp -implicitDefEqProofs]
    have e : shL i (fun _ => true) = srt (List.range (2 ^ i)) := by
      unfold shL
      rw [List.filter_eq_self.mpr fun _ _ => rfl]
    rw [e]
    simp -implicitDefEqProofs
  · rintro x r δ s' ⟨i, a, hp, rfl, rfl⟩
    have hx : x = i := by
      have h1 : (List.range k)[i]? = some x := by rw [hp]; simp
      obtain ⟨h2, h3⟩ := List.getElem?_eq_some_iff.mp h1
      simpa using h3.symm
    subst hx
    have hxk : x < k := by
      have : x ∈ List.range k := by rw [hp]; simp
      exact List.mem_range.mp this
    have hx6 : x ≤ 6 := by omega
    have hpl := pow_le hx6
    have hB := big_nat (show 2 ^ x ≤ 1000000 by omega)
    have hB3 : big (2 ^ x + 2 ^ x) = true := big_nat (by omega)
    have hpow : (List.range (2 ^ (x + 1))).map lotD = (List.range (2 ^ x)).map lotD ++ (List.range (2 ^ x)).map fun m => Dat.tup ((bits m).map nI ++ [nI x]) := by
      rw [range_pow, List.map_append, List.map_map]
      congr 1
      refine List.map_congr_left fun m hm => ?_
      show Dat.tup ((bits (m + 2 ^ x)).map nI) = _
      rw [bits_add (by omega) (List.mem_range.mp hm), List.map_append]
      rfl
    refine ⟨[some (nI k), some (.lst ((List.range (2 ^ (x + 1))).map lotD)), some (nI x), none, none], s', ?_, x + 1, _, by rw [hp, List.range_succ, List.append_assoc]; rfl, rfl, rfl⟩
    simp -implicitDefEqProofs [hB]
    rw [loopC_all (e := lotD) (g := fun m => Dat.tup ((bits m).map nI ++ [nI x])) fun m hm => by
      have hb : big ((bits m).length + 1) = true := big_nat (by have := bits_len (m := m); omega)
      simp -implicitDefEqProofs [binop, hb]]
    simp -implicitDefEqProofs [binop, hB3, hpow]
theorem sh_small {k : Nat} {t : Nat → Bool} : (shL k t).length ≤ 64 := by
  unfold shL srt
  exact Nat.le_trans (List.length_filter_le _ _) (by decide)
theorem gr_small {k : Nat} {t : Nat → Bool} : (grL k t).length ≤ 64 := by
  unfold grL srt
  exact Nat.le_trans (List.length_filter_le _ _) (by decide)
/-- the greatest ones by looking at all -/
theorem top_by {k m : Nat} {t : Nat → Bool} (g : Good k t) (hm : m < 2 ^ k) (ht : t m = true) : topB k t m = decide (((shL k t).filter fun o => !decide (o = m) && sub m o) = []) := by
  rw [Bool.eq_iff_iff, decide_eq_true_eq, List.filter_eq_nil_iff, topB_iff]
  constructor
  · rintro ⟨_, hu⟩ o ho
    obtain ⟨o1, o2⟩ := (mem_sh g.k6).mp ho
    intro hs
    rw [Bool.and_eq_true, Bool.not_eq_true', decide_eq_false_iff_not] at hs
    obtain ⟨i, i1, i2, i3, i4, i5, i6⟩ := step_up (lt64 g.k6 hm) (lt64 g.k6 o1) hs.2 (fun z => hs.1 z.symm)
    have hio := bit_lt o1 i2
    have := hu _ (mem_up.mpr ⟨i, i1, hio, i3, rfl⟩)
    rw [g.dn o1 i4 o2] at this
    cases this
  · intro h
    refine ⟨ht, fun o ho => ?_⟩
    have hlt := up_lt hm ho
    obtain ⟨i, i1, i2, i3, rfl⟩ := mem_up.mp ho
    cases e : t (m ||| 2 ^ i) with
    | false => rfl
    | true =>
      have := h _ ((mem_sh g.k6).mpr ⟨hlt, e⟩)
      rw [Bool.and_eq_true, Bool.not_eq_true', decide_eq_false_iff_not] at this
      refine absurd ⟨fun z => ?_, sub_or m i⟩ this
      have := congrArg (Nat.testBit · i) z
      simp [i3] at this
theorem s_greatest {n k : Nat} {t : Nat → Bool} {s : St} (g : Good k t) : callF P (n + 3) 18 [.lst ((shL k t).map lotD)] s = .ok (.lst ((grL k t).map lotD)) s := by
  have hk := g.k6
  have hB := big_nat (show (shL k t).length ≤ 1000000 by have := sh_small (k := k) (t := t); omega)
  rw [call_eq (q := f18) rfl rfl _ rfl]
  simp -implicitDefEqProofs [f18]
  refine fin_loop (e := lotD) (xs := shL k t) (fun r δ s' => ∃ pre a, shL k t = pre ++ r ∧ δ = [some (.lst ((shL k t).map lotD)), some (.obj s.length), a, none, none] ∧ s' = s ++ [.lst ((pre.filter (topB k t)).map keyM)]) ⟨[], none, rfl, rfl, rfl⟩ ?_ ?_
  · rintro δ' s' ⟨pre, a, hp, rfl, rfl⟩
    rw [List.append_nil] at hp
    subst hp
    have hl : ∀ m ∈ (shL k t).filter (topB k t), m < 64 := fun m hm => lt64 hk ((mem_sh hk).mp (List.mem_filter.mp hm).1).1
    have nd : ((shL k t).filter (topB k t)).Nodup := srt_nodup.filter _
    have es : srt ((shL k t).filter (topB k t)) = grL k t := by
      refine srt_congr fun m => ?_
      rw [List.mem_filter, mem_sh hk, List.mem_filter, List.mem_range]
      exact ⟨fun z => ⟨z.1.1, z.2⟩, fun z => ⟨⟨z.1, (topB_iff.mp z.2).1⟩, z.2⟩⟩
    have hs : biD .sorted (.lst (((shL k t).filter (topB k t)).map keyM)) = some (.fl ((grL k t).map keyM)) := by
      show (if okSort _ then some (Dat.fl (sortD _)) else none) = _
      rw [okSort_keys hl, if_pos rfl, sortD_keys nd hl, es]
    have hB2 := big_nat (show (grL k t).length ≤ 1000000 by have := gr_small (k := k) (t := t); omega)
    simp -implicitDefEqProofs [hs, hB2]
    rw [loopC_all (e := keyM) (g := lotD) fun m hm => by simp -implicitDefEqProofs]
    simp -implicitDefEqProofs
  · rintro m r δ s' ⟨pre, a, hp, rfl, rfl⟩
    have hmem : m ∈ shL k t := by rw [hp]; simp
    obtain ⟨hm, ht⟩ := (mem_sh hk).mp hmem
    have hlen : pre.length ≤ 64 := by
      have := congrArg List.length hp
      rw [List.length_append] at this
      have := sh_small (k := k) (t := t)
      omega
    have hlen2 : (List.map keyM (List.filter (topB k t) pre)).length < 16777216 := by
      rw [List.length_map]
      have := List.length_filter_le (topB k t) pre
      omega
    refine ⟨[some (.lst ((shL k t).map lotD)), some (.obj s.length), some (lotD m), none, none], s ++ [.lst (((pre ++ [m]).filter (topB k t)).map keyM)], ?_, pre ++ [m], _, by rw [hp, List.append_assoc]; rfl, rfl, rfl⟩
    simp -implicitDefEqProofs [hB]
    rw [loopC_if (e := lotD) (p := fun o => !decide (o = m) && sub m o) (g := lotD) fun o ho => by
      have h6 : o < 64 := lt64 hk ((mem_sh hk).mp ho).1
      have he := eqs_lot.eqD (by omega) h6 (lt64 hk hm)
      simp -implicitDefEqProofs [he, s_lies (lt64 hk hm) h6]
      by_cases q : o = m
      · simp -implicitDefEqProofs [q]
      · simp -implicitDefEqProofs [q]; cases sub m o <;> rfl]
    have he := eqs_lot.lst.eqD (a := (shL k t).filter fun o => !decide (o = m) && sub m o) (b := []) (by omega) (fun o ho => lt64 hk ((mem_sh hk).mp (List.mem_filter.mp ho).1).1) (fun _ h => by cases h)
    rw [← top_by g hm ht] at he
    have he : eqD (.lst (((shL k t).filter fun o => !decide (o = m) && sub m o).map lotD)) (.lst []) = some (topB k t m) := he
    simp -implicitDefEqProofs [he]
    cases q : topB k t m with
    | false => simp -implicitDefEqProofs [q]
    | true => simp -implicitDefEqProofs [q, lmD_append hlen2]
end I81m

set_option linter.all false
set_option maxRecDepth 100000
set_option maxHeartbeats 2000000
namespace I81m
open Z (Dat Cell St Env Res opt view raw settle live BOp COp big binop toPy toPys shapedO eqD isInts inD isStr isNonD cmpop truth ixD ixL cut slD BI LM PM CR Tgt HE IE IT It IS FunI ClsI Prog bindT wipeE tyIs isiD npOf plainC isiOk ownEq datC fldD belowC excQ hasFld evH evHs isBls isStrs isTupD seqOf maxI minI cmpD ltD encD isT1 isN0 okP okSort sortD sortZ biD bi2D rngOk rngD joinD pmD pmT isLst lmD fmtD keyD valD putD setIxD putK permD loopC Fl loopF loopW Fun setAll ev evT evs evD evF evO evI exS exB parG storeFld storeIx runF callF REx)
open PySem (Str PyData)
open Z.Res
open ME I81
theorem co_len {k m : Nat} (hk : k ≤ 6) (hm : m < 2 ^ k) : (k : Int) - ((bits m).length : Int) = ((bits (co k m)).length : Int) := by
  have : ((List.range 7).all fun k => (List.range (2 ^ k)).all fun m => decide ((k : Int) - ((bits m).length : Int) = ((bits (co k m)).length : Int))) = true := by decide +kernel
  exact of_decide_eq_true (List.all_eq_true.mp (List.all_eq_true.mp this k (List.mem_range.mpr (by omega))) m (List.mem_range.mpr hm))
theorem s_stepped {n k m : Nat} {t : Nat → Bool} {s : St} (g : Good k t) (hm : m < 2 ^ k) (ht : topB k t m = true) : callF P (n + 3) 17 [.lst ((shL k t).map lotD), lotD m, nI k] s = .ok (.lst ((shL k (stp k t m)).map lotD)) s := by
  have hk := g.k6
  have hm6 := lt64 hk hm
  have hB := big_nat (show (shL k t).length ≤ 1000000 by have := sh_small (k := k) (t := t); omega)
  have hB2 := big_nat (show (shL k (stp k t m)).length ≤ 1000000 by have := sh_small (k := k) (t := stp k t m); omega)
  have hfl : ((shL k t).filter fun o => !decide (o = m)).length ≤ 64 := Nat.le_trans (List.length_filter_le _ _) sh_small
  have hB3 : big (((shL k t).filter fun o => !decide (o = m)).length + 1) = true := big_nat (by omega)
  rw [call_eq (q := f17) rfl rfl _ rfl]
  simp -implicitDefEqProofs [f17, hB]
  rw [loopC_if (e := lotD) (p := fun o => !decide (o = m)) (g := keyM) fun o ho => by
    have he := eqs_lot.eqD (by omega) (lt64 hk ((mem_sh hk).mp ho).1) hm6
    simp -implicitDefEqProofs [he]
    by_cases q : o = m <;> simp -implicitDefEqProofs [q]]
  simp -implicitDefEqProofs [s_others hk hm, co_len hk hm, binop, hB3]
  have key : List.map keyM (List.filter (fun o => !decide (o = m)) (shL k t)) ++ [keyM (co k m)] = ((shL k t).filter (fun o => !decide (o = m)) ++ [co k m]).map keyM := by simp
  have nem : ∀ o ∈ (shL k t).filter (fun o => !decide (o = m)) ++ [co k m], o < 64 := fun o ho => by
    rcases List.mem_append.mp ho with ho | ho
    · exact lt64 hk ((mem_sh hk).mp (List.mem_filter.mp ho).1).1
    · have : o = co k m := by simpa using ho
      rw [this]; exact lt64 hk (co_lt hm)
  have tc : t (co k m) = false := by rw [g.dual m hm, (topB_iff.mp ht).1]; rfl
  have nd : ((shL k t).filter (fun o => !decide (o = m)) ++ [co k m]).Nodup := by
    refine List.nodup_append.mpr ⟨srt_nodup.filter _, by simp, fun a ha b hb e => ?_⟩
    have : b = co k m := by simpa using hb
    subst this
    rw [e] at ha
    have := ((mem_sh hk).mp (List.mem_filter.mp ha).1).2
    rw [tc] at this; cases this
  have es : srt ((shL k t).filter (fun o => !decide (o = m)) ++ [co k m]) = shL k (stp k t m) := by
    refine srt_congr fun o => ?_
    rw [List.mem_append, List.mem_filter, mem_sh hk, List.mem_filter, List.mem_range, List.mem_singleton, Bool.not_eq_true', decide_eq_false_iff_not]
    unfold stp
    constructor
    · rintro (⟨⟨h1, h2⟩, h3⟩ | rfl)
      · refine ⟨h1, ?_⟩
        by_cases q : o = co k m
        · rw [if_pos q]
        · rw [if_neg q, if_neg h3]; exact h2
      · exact ⟨co_lt hm, by rw [if_pos rfl]⟩
    · rintro ⟨h1, h2⟩
      by_cases q : o = co k m
      · exact .inr q
      · rw [if_neg q] at h2
        by_cases q2 : o = m
        · rw [if_pos q2] at h2; cases h2
        · rw [if_neg q2] at h2
          exact .inl ⟨⟨h1, h2⟩, q2⟩
  have hs : biD .sorted (.lst (List.map keyM (List.filter (fun o => !decide (o = m)) (shL k t)) ++ [keyM (co k m)])) = some (.fl ((shL k (stp k t m)).map keyM)) := by
    rw [key]
    show (if okSort _ then some (Dat.fl (sortD _)) else none) = _
    rw [okSort_keys nem, if_pos rfl, sortD_keys nd nem, es]
  simp -implicitDefEqProofs [hs, hB2]
  rw [loopC_all (e := keyM) (g := lotD) fun m hm => by simp -implicitDefEqProofs]
  simp -implicitDefEqProofs
theorem s_of_lengths {n k : Nat} {ls : List Nat} {s : St} (hk : k ≤ 6) (hl : ls.length = k) : callF P (n + 3) 15 [.lst (ls.map nI)] s = .ok (.lst ((shL k (lenB ls)).map lotD)) s := by
  have hB := big_nat (show (shL k fun _ => true).length ≤ 1000000 by have := sh_small (k := k) (t := fun _ => true); omega)
  have hl2 : ls.length = k := hl
  rw [call_eq (q := f15) rfl rfl _ rfl]
  simp -implicitDefEqProofs [f15, bi_sumL, hl, s_lots hk, hB]
  rw [loopC_if (e := lotD) (p := lenB ls) (g := lotD) fun m hm => by
    have hm' := ((mem_sh hk).mp hm).1
    have hb := big_nat (show (bits m).length ≤ 1000000 by have := bits_len (m := m); omega)
    simp -implicitDefEqProofs [hb]
    rw [loopC_all (e := nI) (g := fun i => nI (ls.getD i 0)) fun i hi => by
      have : i < ls.length := by rw [hl]; exact bit_lt hm' (bits_mem.mp hi).2
      simp -implicitDefEqProofs [ix_nat this]]
    simp -implicitDefEqProofs [-List.getD_eq_getElem?_getD]
    rw [bi_sumN]
    have e : (((bits m).map fun i => ls.getD i 0).sum) = wt ls m := rfl
    rw [e]
    simp -implicitDefEqProofs [bo_mul, lenB]
    by_cases q : 2 * wt ls m < ls.sum
    · have q2 : 2 * (wt ls m : Int) < (ls.sum : Int) := by omega
      simp -implicitDefEqProofs [q, q2]
    · have q2 : ¬ 2 * (wt ls m : Int) < (ls.sum : Int) := by omega
      simp -implicitDefEqProofs [q, q2]]
  have e : (shL k fun _ => true).filter (lenB ls) = shL k (lenB ls) := by
    unfold shL srt
    rw [List.filter_filter]
    refine List.filter_congr fun m hm => ?_
    by_cases q : m < 2 ^ k
    · cases e : lenB ls m <;> simp [q, e]
    · simp [q]
  rw [e]
  simp -implicitDefEqProofs
theorem s_lengths {n k : Nat} {h : Hat} {t : St} (k3 : 3 ≤ k) (k6 : k ≤ 6) (hb : h.at_ + 10 ≤ 100000) :
    ∃ (ls : List Nat) (h' : Hat), callF P (n + 4) 16 [.obj 0, nI k] (hatC h :: t) = .ok (.lst (ls.map nI)) (hatC h' :: t) ∧ ls.length = k ∧ ls.sum % 2 = 1 ∧ h'.at_ ≤ h.at_ + 10 := by
  obtain ⟨x, h1, hx, e1, b1⟩ := s_one (n := n) (b := false) (xs := [.int 2, .int 3, .int 5, .int 9]) (t := t) (h := h) (by decide) (by decide) (fun x hx => by simp at hx; rcases hx with rfl | rfl | rfl | rfl <;> rfl) (by omega)
  obtain ⟨mo, rfl, hmo⟩ : ∃ mo : Nat, x = nI mo ∧ 0 < mo ∧ mo ≤ 9 := by
    simp at hx
    rcases hx with rfl | rfl | rfl | rfl
    · exact ⟨2, rfl, by decide, by decide⟩
    · exact ⟨3, rfl, by decide, by decide⟩
    · exact ⟨5, rfl, by decide, by decide⟩
    · exact ⟨9, rfl, by decide, by decide⟩
  have e1 : callF P (n + 2 + 1) 2 [.obj 0, .lst [.int 2, .int 3, .int 5, .int 9]] (hatC h :: t) = .ok (nI mo) (hatC h1 :: t) := e1
  have hB := big_nat (show k ≤ 1000000 by omega)
  rw [call_eq (q := f16) rfl rfl _ rfl]
  simp -implicitDefEqProofs [f16, e1, rngOk_nat (show k ≤ 1000000 by omega), hB]
  refine loopC_hatC (e := nI) (d := fun r : Nat => Dat.int (1 + (r : Int))) (xs := List.range k) (fun r => ∃ (ls : List Nat) (h' : Hat), fin (((r.calm.bnd _).bnd _).bnd _) _ = .ok (.lst (ls.map nI)) (hatC h' :: t) ∧ ls.length = k ∧ ls.sum % 2 = 1 ∧ h'.at_ ≤ h.at_ + 10)
    (fun _ _ => True) 1 100000 (by rw [List.length_range]; omega) (fun ps h2 hps _ hb2 => ?_) fun x hx g hg => ?_
  · rw [List.length_range] at hb2
    have hlen : ps.length = k := by
      have := congrArg List.length hps
      simpa using this
    have ev : (ps.map fun p => Dat.int (1 + ((p.2 : Nat) : Int))) = (ps.map fun p => 1 + p.2).map nI := by
      rw [List.map_map]
      refine List.map_congr_left fun p _ => ?_
      show Dat.int _ = Dat.int _
      congr 1
    rw [ev]
    generalize hls : ps.map (fun p => 1 + p.2) = ls
    have hll : ls.length = k := by rw [← hls, List.length_map, hlen]
    by_cases q : ls.sum % 2 = 0
    · obtain ⟨i, h3, e3, hi, b3⟩ := s_lot (n := n + 1) (m := k) (h := h2) (t := t ++ [.lst (ls.map nI)]) (by omega) (by omega) (by omega)
      have e3 : callF P (n + 2 + 1) 4 [.obj 0, nI k] (hatC h2 :: (t ++ [.lst (ls.map nI)])) = .ok (nI i) (hatC h3 :: (t ++ [.lst (ls.map nI)])) := e3
      have hil : i < ls.length := by omega
      refine ⟨ls.set i (ls.getD i 0 + 1), h3, ?_, by rw [List.length_set, hll], by rw [sum_set hil]; omega, by omega⟩
      have q2 : (ls.sum : Int) % 2 = 0 := by omega
      simp -implicitDefEqProofs [bi_sumL, bo_mod, q2, e3, ixL_nat hil, -List.getD_eq_getElem?_getD]
      rw [storeIx_lstC (by simpa using hil)]
      simp -implicitDefEqProofs [-List.getD_eq_getElem?_getD, List.map_set]
      rfl
    · refine ⟨ls, h2, ?_, hll, by omega, by omega⟩
      have q2 : ¬ (ls.sum : Int) % 2 = 0 := by omega
      simp -implicitDefEqProofs [bi_sumL, bo_mod, q2]
  · obtain ⟨r, h', e, _, hb'⟩ := s_lot (n := n + 1) (m := mo) (h := g) (t := t) (by omega) (by omega) (by omega)
    have e : callF P (n + 2 + 1) 4 [.obj 0, nI mo] (hatC g :: t) = .ok (nI r) (hatC h' :: t) := e
    refine ⟨r, h', ?_, trivial, hb'⟩
    simp -implicitDefEqProofs [e]
theorem lot_c {l : List Nat} : ∀ x ∈ l.map lotD, isC x = true := fun x hx => by
  obtain ⟨m, _, rfl⟩ := List.mem_map.mp hx
  rfl
theorem gr_pos {k : Nat} {t : Nat → Bool} (g : Good k t) : 0 < (grL k t).length := by
  have h0 : 0 < 2 ^ k := Nat.two_pow_pos k
  -- the empty lot or all bars
  have : ∃ m, m < 2 ^ k ∧ t m = true := by
    cases e : t 0 with
    | true => exact ⟨0, h0, e⟩
    | false => exact ⟨co k 0, co_lt h0, by rw [g.dual 0 h0, e]; rfl⟩
  obtain ⟨m, hm, e⟩ := this
  obtain ⟨o, o1, o2, _⟩ := up_top g.k6 hm e
  exact List.length_pos_of_mem ((mem_gr g.k6).mpr ⟨o1, o2⟩)
theorem s_shorts {n k : Nat} {h : Hat} {t : St} (k3 : 3 ≤ k) (k6 : k ≤ 6) (hb : h.at_ + 20 ≤ 100000) :
    ∃ (b : Nat → Bool) (h' : Hat), Good k b ∧ callF P (n + 5) 3 [.obj 0, nI k] (hatC h :: t) = .ok (.lst ((shL k b).map lotD)) (hatC h' :: t) ∧ h'.at_ ≤ h.at_ + 20 := by
  obtain ⟨ls, h1, e1, l1, l2, b1⟩ := s_lengths (n := n) (t := t) k3 k6 (h := h) (by omega)
  obtain ⟨x, h2, hx, e2, b2⟩ := s_one (n := n + 1) (b := false) (xs := [.int 0, .int 3, .int 1, .int 8, .int 5]) (t := t) (h := h1) (by decide) (by decide) (fun x hx => by simp at hx; rcases hx with rfl | rfl | rfl | rfl | rfl <;> rfl) (by omega)
  obtain ⟨tu, rfl, htu⟩ : ∃ tu : Nat, x = nI tu ∧ tu ≤ 8 := by
    simp at hx
    rcases hx with rfl | rfl | rfl | rfl | rfl
    · exact ⟨0, rfl, by decide⟩
    · exact ⟨3, rfl, by decide⟩
    · exact ⟨1, rfl, by decide⟩
    · exact ⟨8, rfl, by decide⟩
    · exact ⟨5, rfl, by decide⟩
  have e2 : callF P (n + 3 + 1) 2 [.obj 0, .lst [.int 0, .int 3, .int 1, .int 8, .int 5]] (hatC h1 :: t) = .ok (nI tu) (hatC h2 :: t) := e2
  have e1 : callF P (n + 3 + 1) 16 [.obj 0, nI k] (hatC h :: t) = .ok (.lst (ls.map nI)) (hatC h1 :: t) := e1
  have hG := good_len k3 k6 l1 l2
  rw [call_eq (q := f3) rfl rfl _ rfl]
  simp -implicitDefEqProofs [f3, e1, s_of_lengths k6 l1, e2, rngOk_nat (show tu ≤ 1000000 by omega)]
  refine loop_at (e := nI) (xs := List.range tu) (fun r => ∃ (b : Nat → Bool), Good k b ∧ ∃ (h' : Hat), fin (r.bnd _) _ = .ok (.lst ((shL k b).map lotD)) (hatC h' :: t) ∧ h'.at_ ≤ h.at_ + 20)
    (fun r δ s => ∃ b g a, Good k b ∧ δ = [some (.obj 0), some (nI k), some (.lst ((shL k b).map lotD)), a] ∧ s = hatC g :: t ∧ g.at_ + r.length ≤ h.at_ + 20) ⟨lenB ls, h2, none, hG, rfl, rfl, by rw [List.length_range]; omega⟩ ?_ ?_
  · rintro δ' s' ⟨b, g, a, gb, rfl, rfl, hg⟩
    exact ⟨b, gb, g, by simp -implicitDefEqProofs, by simpa using hg⟩
  · rintro x r δ s' ⟨b, g, a, gb, rfl, rfl, hg⟩
    rw [List.length_cons] at hg
    obtain ⟨y, g', hy, e, b'⟩ := s_one (n := n + 1) (b := false) (xs := (grL k b).map lotD) (t := t) (h := g) (by rw [List.length_map]; exact gr_pos gb) (by rw [List.length_map]; have := gr_small (k := k) (t := b); omega) lot_c (by omega)
    obtain ⟨m, hm, rfl⟩ := List.mem_map.mp hy
    have e : callF P (n + 3 + 1) 2 [.obj 0, .lst ((grL k b).map lotD)] (hatC g :: t) = .ok (lotD m) (hatC g' :: t) := e
    obtain ⟨m1, m2⟩ := (mem_gr k6).mp hm
    refine ⟨[some (.obj 0), some (nI k), some (.lst ((shL k (stp k b m)).map lotD)), some (nI x)], hatC g' :: t, ?_, stp k b m, g', _, gb.stp m1 m2, rfl, rfl, by omega⟩
    simp -implicitDefEqProofs [s_greatest gb, e, s_stepped gb m1 m2]
theorem nat_c {l : List Nat} : ∀ x ∈ l.map nI, isC x = true := fun x hx => by
  obtain ⟨m, _, rfl⟩ := List.mem_map.mp hx
  rfl
theorem s_book {n k : Nat} {b : Nat → Bool} {h : Hat} {t : St} (gb : Good k b) (hb : h.at_ + 600 ≤ 100000) :
    ∃ (h' : Hat), callF P (n + 9) 6 [.obj 0, nI k, .lst ((shL k b).map lotD)] (hatC h :: t) = .ok (bookD k b) (hatC h' :: t) ∧ h'.at_ ≤ h.at_ + 600 := by
  have hk := gb.k6
  have hgs := gr_small (k := k) (t := b)
  obtain ⟨ys, h1, hp, e1, b1⟩ := s_mixed (n := n + 5) (b := false) (xs := (grL k b).map lotD) (t := t) (h := h) (by rw [List.length_map]; omega) lot_c (by rw [List.length_map]; omega)
  obtain ⟨ms, hms, rfl⟩ := perm_map_inv hp rfl
  rw [List.length_map] at b1
  have hml := hms.length_eq
  have hB := big_nat (show ms.length ≤ 1000000 by omega)
  have e1 : callF P (n + 7 + 1) 11 [.obj 0, .lst ((grL k b).map lotD)] (hatC h :: t) = .ok (.lst (ms.map lotD)) (hatC h1 :: t) := e1
  rw [call_eq (q := f6) rfl rfl _ rfl]
  simp -implicitDefEqProofs [f6, s_greatest gb, e1, hB]
  refine loopC_hatC (e := lotD) (d := tolD) (xs := ms) (fun r => ∃ (h' : Hat), fin (((r.calm.bnd _).bnd _).bnd _) _ = .ok (bookD k b) (hatC h' :: t) ∧ h'.at_ ≤ h.at_ + 600)
    (fun m y => y.1 = m ∧ y.2.1 = false ∧ y.2.2.Perm (bits m)) 6 100000 (by omega) (fun ps h2 hps hq hb2 => ?_) fun m hm g hg => ?_
  · -- the told lots make the book
    have hpl : ps.length = ms.length := by rw [← hps, List.length_map]
    have e3 : (ps.map fun p => tolD p.2) = (ps.map (·.2)).map tolD := by rw [List.map_map]; rfl
    have lots : ∀ c : Bool, Makes k b ((ps.map (·.2)).map fun x => (x.1, c, x.2.2)) := fun c => by
      have e4 : ((ps.map (·.2)).map fun x => (x.1, c, x.2.2)).map (·.1) = ms := by
        rw [List.map_map, List.map_map, ← hps]
        refine List.map_congr_left fun p hp => ?_
        exact (hq p hp).1
      refine ⟨⟨by rw [List.length_map, List.length_map]; omega, fun x hx => ?_⟩, by rw [e4]; exact hms⟩
      obtain ⟨y, hy, rfl⟩ := List.mem_map.mp hx
      obtain ⟨p, hp, rfl⟩ := List.mem_map.mp hy
      obtain ⟨q1, q2, q3⟩ := hq p hp
      have hin : p.1 ∈ ms := by rw [← hps]; exact List.mem_map_of_mem hp
      show p.2.1 < 2 ^ k ∧ p.2.2.2.Perm (bits p.2.1)
      rw [q1]
      exact ⟨((mem_gr hk).mp (hms.mem_iff.mp hin)).1, q3⟩
    have same : ((ps.map (·.2)).map fun x => (x.1, false, x.2.2)) = ps.map (·.2) := by
      conv => rhs; rw [← List.map_id (ps.map (·.2))]
      refine List.map_congr_left fun y hy => ?_
      obtain ⟨p, hp, rfl⟩ := List.mem_map.mp hy
      show (p.2.1, false, p.2.2.2) = p.2
      rw [← (hq p hp).2.1]
    obtain ⟨r, h3, e5, hr, b3⟩ := s_lot (n := n + 6) (m := 2) (h := h2) (t := t) (by decide) (by decide) (by omega)
    have e5 : callF P (n + 7 + 1) 4 [.obj 0, .int 2] (hatC h2 :: t) = .ok (nI r) (hatC h3 :: t) := e5
    refine ⟨h3, ?_, by omega⟩
    rw [e3]
    by_cases q : r = 0
    · have q2 : (r : Int) = 0 := by omega
      have mk := s_mk_book (n := n) (b := false) (s := hatC h3 :: t) gb (lots false)
      rw [same] at mk
      have mk : mkD P (callF P (n + 7)) 0 [nI k, .lst ((ps.map (·.2)).map tolD)] (hatC h3 :: t) = .ok (bookD k b) (hatC h3 :: t) := mk
      simp -implicitDefEqProofs [e5, q2, -List.map_map]
      rw [mk]
      simp -implicitDefEqProofs
    · have q2 : ¬ (r : Int) = 0 := by omega
      have mk := s_mk_book (n := n) (b := true) (s := hatC h3 :: t) gb (lots true)
      have hB4 := big_nat (show ps.length ≤ 1000000 by omega)
      simp -implicitDefEqProofs [e5, q, -List.map_map, hB4]
      rw [loopC_all (e := tolD) (g := fun x => Dat.tup (x.2.2.map nI)) fun x hx => by
        obtain ⟨p, hp, rfl⟩ := List.mem_map.mp hx
        have : p.2.2.1 = false := (hq p hp).2.1
        simp -implicitDefEqProofs [tolD, this, sqD]]
      have e6 : (ps.map (·.2)).map (fun x => Dat.tup (x.2.2.map nI)) = ((ps.map (·.2)).map fun x => (x.1, true, x.2.2)).map tolD := by
        simp only [List.map_map]
        rfl
      rw [e6]
      have mk : mkD P (callF P (n + 7)) 0 [nI k, .tup (((ps.map (·.2)).map fun x => (x.1, true, x.2.2)).map tolD)] (hatC h3 :: t) = .ok (bookD k b) (hatC h3 :: t) := mk
      simp -implicitDefEqProofs [-List.map_map, q]
      rw [mk]
      simp -implicitDefEqProofs
  · obtain ⟨zs, h', hz, e, hb'⟩ := s_mixed (n := n + 5) (b := true) (xs := (bits m).map nI) (t := t) (h := g) (by rw [List.length_map]; have := bits_len (m := m); omega) nat_c (by rw [List.length_map]; have := bits_len (m := m); omega)
    obtain ⟨l, hl, rfl⟩ := perm_map_inv hz rfl
    rw [List.length_map] at hb'
    have hbl := bits_len (m := m)
    have e : callF P (n + 7 + 1) 11 [.obj 0, .tup ((bits m).map nI)] (hatC g :: t) = .ok (.lst (l.map nI)) (hatC h' :: t) := e
    refine ⟨(m, false, l), h', ?_, ⟨rfl, rfl, hl⟩, by omega⟩
    simp -implicitDefEqProofs [e]
    rfl
end I81m

set_option linter.all false
set_option maxRecDepth 100000
set_option maxHeartbeats 2000000
namespace I81m
open Z (Dat Cell St Env Res opt view raw settle live BOp COp big binop toPy toPys shapedO eqD isInts inD isStr isNonD cmpop truth ixD ixL cut slD BI LM PM CR Tgt HE IE IT It IS FunI ClsI Prog bindT wipeE tyIs isiD npOf plainC isiOk ownEq datC fldD belowC excQ hasFld evH evHs isBls isStrs isTupD seqOf maxI minI cmpD ltD encD isT1 isN0 okP okSort sortD sortZ biD bi2D rngOk rngD joinD pmD pmT isLst lmD fmtD keyD valD putD setIxD putK permD loopC Fl loopF loopW Fun setAll ev evT evs evD evF evO evI exS exB parG storeFld storeIx runF callF REx)
open PySem (Str PyData)
open Z.Res
open ME I81
abbrev shD (k : Nat) (t : Nat → Bool) : Dat := .lst ((shL k t).map lotD)
theorem in_sh {k m : Nat} {t : Nat → Bool} (hk : k ≤ 6) (hm : m < 2 ^ k) : inD (lotD m) (shD k t) = some (t m) := by
  rw [eqs_lot.inL (by omega) (lt64 hk hm) fun o ho => lt64 hk ((mem_sh hk).mp ho).1]
  congr 1
  cases e : t m with
  | true => exact decide_eq_true ((mem_sh hk).mpr ⟨hm, e⟩)
  | false => exact decide_eq_false fun z => by rw [((mem_sh hk).mp z).2] at e; cases e
theorem s_counted {n k : Nat} {a b c : Nat → Bool} {d : Dat} {s s1 : St} (hk : k ≤ 6) (hr : raw d = d) (h0 : settle d s = .ok (.lst [shD k a, shD k b, shD k c]) s1) (h1 : settle d s1 = .ok (.lst [shD k a, shD k b, shD k c]) s1) (hlen : s1.length = s.length) :
    callF P (n + 3) 5 [nI k, d] s = .ok (shD k (maj a b c)) s1 := by
  have hB := big_nat (show (shL k fun _ => true).length ≤ 1000000 by have := sh_small (k := k) (t := fun _ => true); omega)
  have h0m : (0 : Nat) ∈ shL k fun _ => true := (mem_sh hk).mpr ⟨Nat.two_pow_pos k, rfl⟩
  rw [call_eq (q := f5) rfl rfl _ rfl]
  simp -implicitDefEqProofs [f5, s_lots hk, hB]
  have inner : ∀ m, 1 < ([a, b, c].filter fun t => t m).length ↔ maj a b c m = true := fun m => by
    unfold maj
    cases ea : a m <;> cases eb : b m <;> cases ec : c m <;> simp [ea, eb, ec]
  rw [loopC_frz (e := lotD) (p := maj a b c) (g := lotD) (s1 := s1) (fun z => by rw [z] at h0m; cases h0m) (fun m hm => ?_) fun m hm => ?_]
  · have e : (shL k fun _ => true).filter (maj a b c) = shL k (maj a b c) := by
      unfold shL srt
      rw [List.filter_filter]
      refine List.filter_congr fun m hm => ?_
      by_cases q : m < 2 ^ k
      · cases e : maj a b c m <;> simp [q, e]
      · simp [q]
    rw [e]
    simp -implicitDefEqProofs [← hlen]
  · have hm' := ((mem_sh hk).mp hm).1
    simp -implicitDefEqProofs [h0]
    rw [show [shD k a, shD k b, shD k c] = [a, b, c].map (shD k) from rfl, loopC_if (e := shD k) (p := fun t => t m) (g := shD k) fun t ht => by
      simp -implicitDefEqProofs [in_sh hk hm']
      cases t m <;> rfl]
    have hi : (1 : Int) < (([a, b, c].filter fun t => t m).length : Int) ↔ maj a b c m = true := by
      rw [← inner m]; omega
    simp -implicitDefEqProofs
    by_cases q : maj a b c m = true
    · simp -implicitDefEqProofs [q, hi.mpr q]
    · have q2 : ¬ (1 : Int) < (([a, b, c].filter fun t => t m).length : Int) := fun z => q (hi.mp z)
      simp -implicitDefEqProofs [q, q2, Int.not_lt.mp q2]
  · have hm' := ((mem_sh hk).mp hm).1
    simp -implicitDefEqProofs [h1]
    rw [show [shD k a, shD k b, shD k c] = [a, b, c].map (shD k) from rfl, loopC_if (e := shD k) (p := fun t => t m) (g := shD k) fun t ht => by
      simp -implicitDefEqProofs [in_sh hk hm']
      cases t m <;> rfl]
    have hi : (1 : Int) < (([a, b, c].filter fun t => t m).length : Int) ↔ maj a b c m = true := by
      rw [← inner m]; omega
    simp -implicitDefEqProofs
    by_cases q : maj a b c m = true
    · simp -implicitDefEqProofs [q, hi.mpr q]
    · have q2 : ¬ (1 : Int) < (([a, b, c].filter fun t => t m).length : Int) := fun z => q (hi.mp z)
      simp -implicitDefEqProofs [q, q2, Int.not_lt.mp q2]
theorem s_apart {n k : Nat} {a b : Nat → Bool} {s : St} (hk : k ≤ 6) : callF P (n + 2) 9 [shD k a, shD k b] s = .ok (nI (dist k a b)) s := by
  have hB := big_nat (show (shL k a).length ≤ 1000000 by have := sh_small (k := k) (t := a); omega)
  rw [call_eq (q := f9) rfl rfl _ rfl]
  simp -implicitDefEqProofs [f9, hB]
  rw [loopC_if (e := lotD) (p := fun m => !b m) (g := lotD) fun m hm => by
    simp -implicitDefEqProofs [in_sh hk ((mem_sh hk).mp hm).1]
    cases b m <;> simp -implicitDefEqProofs]
  simp -implicitDefEqProofs [parted_len hk]
abbrev booksD (k : Nat) (ts : List (Nat → Bool)) : Dat := .lst (ts.map (bookD k))
theorem ne_false {i : Int} : eqD (.int i) (.int i) = some true := by simp
theorem s_passed {n k : Nat} {a b c : Nat → Bool} {s : St} (ha : Good k a) (hb : Good k b) (hc : Good k c) : callF P (n + 12) 8 [booksD k [a, b, c], bookD k (maj a b c)] s = .ok (.bl true) s := by
  have hM := ha.maj hb hc
  obtain ⟨l1, e1, d1, p1⟩ := s_steps_between (n := n) (s := s) ha hM
  obtain ⟨l2, e2, d2, p2⟩ := s_steps_between (n := n) (s := s) hM hb
  obtain ⟨l3, e3, d3, _⟩ := s_steps_between (n := n) (s := s) ha hb
  obtain ⟨q1, f1, u1, v1⟩ := s_steps_between (n := n) (s := s) hb hM
  obtain ⟨q2, f2, u2, v2⟩ := s_steps_between (n := n) (s := s) hM hc
  obtain ⟨q3, f3, u3, _⟩ := s_steps_between (n := n) (s := s) hb hc
  obtain ⟨r3, g3, w3, _⟩ := s_steps_between (n := n) (s := s) ha hc
  have b1 := dist_small (a := a) (b := maj a b c) ha.k6
  have b2 := dist_small (a := maj a b c) (b := b) ha.k6
  have b3 := dist_small (a := b) (b := maj a b c) ha.k6
  have b4 := dist_small (a := maj a b c) (b := c) ha.k6
  have h1 := dist_maj (k := k) (a := a) (b := b) (t := maj a b c) fun m _ => by unfold maj; cases a m <;> cases b m <;> simp
  have h2 := dist_maj (k := k) (a := b) (b := c) (t := maj a b c) fun m _ => by unfold maj; cases b m <;> cases c m <;> simp
  have h3 := dist_maj (k := k) (a := a) (b := c) (t := maj a b c) fun m _ => by unfold maj; cases a m <;> cases c m <;> simp
  have pair : ∀ (x y : Nat → Bool) (l l' : List Nat), Good k x → Good k y → path k x l (maj a b c) → path k (maj a b c) l' y → l.length + l'.length = dist k x y → l.length ≤ 64 → l'.length ≤ 64 →
      big (l.length + l'.length) = true ∧ mkD P (callF P (n + 10)) 4 [.tup (l.map lotD ++ l'.map lotD)] s = .ok (stepsD (l ++ l')) s ∧ callF P (n + 11) 23 [bookD k x, bookD k y, stepsD (l ++ l')] s = .ok (.bl true) s := fun x y l l' hx hy p p' hl c1 c2 => by
    have mk := s_mk_steps (n := n + 2) (b := true) (l := l ++ l') (s := s) (by rw [List.length_append]; omega)
    rw [List.map_append] at mk
    exact ⟨big_nat (by omega), mk, s_shows_steps hx hy (path_app p p') (by rw [List.length_append]; omega)⟩
  obtain ⟨e5, e6, e7⟩ := pair a b l1 l2 ha hb p1 p2 (by omega) (by omega) (by omega)
  obtain ⟨f5, f6, f7⟩ := pair b c q1 q2 hb hc v1 v2 (by omega) (by omega) (by omega)
  obtain ⟨g5, g6, g7⟩ := pair a c l1 q2 ha hc p1 v2 (by omega) (by omega) (by omega)
  rw [call_eq (q := f8) rfl rfl _ rfl]
  have i4 : ((l1.length : Int) + (l2.length : Int)) = (l3.length : Int) := by omega
  have j4 : ((q1.length : Int) + (q2.length : Int)) = (q3.length : Int) := by omega
  have k4 : ((l1.length : Int) + (q2.length : Int)) = (r3.length : Int) := by omega
  have ist : cmpop .isnt (.bl true) (.bl true) = some false := rfl
  simp -implicitDefEqProofs [f8, loopF_cons, loopF_nil, e1, e2, e3, f1, f2, f3, g3, f_lots, -fldD_ins, setAll, i4, j4, k4, binop, e5, f5, g5, e6, f6, g6, e7, f7, g7, ist]
theorem s_alone {n k : Nat} {a b c : Nat → Bool} {h : Hat} {t : St} (ha : Good k a) (hb : Good k b) (hc : Good k c) (hat : h.at_ + 1 ≤ 100000) :
    ∃ h', callF P (n + 12) 13 [.obj 0, booksD k [a, b, c], bookD k (maj a b c)] (hatC h :: t) = .ok (.bl true) (hatC h' :: t) ∧ h'.at_ ≤ h.at_ + 1 := by
  have hM := ha.maj hb hc
  obtain ⟨x, h1, hx, e1, b1⟩ := s_one (n := n + 8) (b := true) (xs := (grL k (maj a b c)).map fun m => bookD k (stp k (maj a b c) m)) (t := t) (h := h) (by rw [List.length_map]; exact gr_pos hM) (by rw [List.length_map]; have := gr_small (k := k) (t := maj a b c); omega)
    (fun x hx => by obtain ⟨m, _, rfl⟩ := List.mem_map.mp hx; rfl) (by omega)
  obtain ⟨g, hg, rfl⟩ := List.mem_map.mp hx
  obtain ⟨g1, g2⟩ := (mem_gr ha.k6).mp hg
  have hN := hM.stp g1 g2
  have e1 : callF P (n + 10 + 1) 2 [.obj 0, .tup ((grL k (maj a b c)).map fun m => bookD k (stp k (maj a b c) m))] (hatC h :: t) = .ok (bookD k (stp k (maj a b c) g)) (hatC h1 :: t) := e1
  refine ⟨h1, ?_, b1⟩
  rw [call_eq (q := f13) rfl rfl _ rfl]
  simp -implicitDefEqProofs [f13, s_neighbours hM, e1]
  have st : ∀ x y, Good k x → Good k y → ∃ l, callF P (n + 11) 10 [bookD k x, bookD k y] (hatC h1 :: t) = .ok (stepsD l) (hatC h1 :: t) ∧ l.length = dist k x y := fun x y hx hy => by
    obtain ⟨l, e, d, _⟩ := s_steps_between (n := n) (s := hatC h1 :: t) hx hy
    exact ⟨l, e, d⟩
  rw [show [bookD k a, bookD k b, bookD k c] = [a, b, c].map (bookD k) from rfl, loopC_all (e := bookD k) (g := fun x => nI (dist k x (stp k (maj a b c) g))) fun x hx => by
    have hx : Good k x := by
      simp at hx
      rcases hx with rfl | rfl | rfl <;> assumption
    obtain ⟨l, e, d⟩ := st x _ hx hN
    simp -implicitDefEqProofs [e, f_lots, -fldD_ins, d]]
  obtain ⟨l1, q1, d1⟩ := st a b ha hb
  obtain ⟨l2, q2, d2⟩ := st b c hb hc
  obtain ⟨l3, q3, d3⟩ := st a c ha hc
  have lc : ∀ {f : Dat → St → Z.Res (Option Dat)} {x : Dat} {r : List Dat} {s : St}, loopC f (x :: r) s = (f x s).bnd fun o s => (loopC f r s).bnd fun ys s => .ok (o.toList ++ ys) s := fun {f x r s} => rfl
  have ln : ∀ {f : Dat → St → Z.Res (Option Dat)} {s : St}, loopC f [] s = .ok [] s := fun {f s} => rfl
  simp -implicitDefEqProofs [lc, ln, q1, q2, q3, d1, d2, d3, f_lots, -fldD_ins, eqD_3]
  have Ng : stp k (maj a b c) g g = false := stp_lt rfl (co_ne (by have := ha.k3; omega) g1)
  have sb := dist_sym hN hb
  have sc := dist_sym hN hc
  have two : (a g = true ∧ b g = true) ∨ (b g = true ∧ c g = true) ∨ (a g = true ∧ c g = true) := by
    have := (topB_iff.mp g2).1
    unfold maj at this
    revert this
    cases a g <;> cases b g <;> cases c g <;> simp
  rcases two with ⟨x, y⟩ | ⟨x, y⟩ | ⟨x, y⟩
  · have := dist_lt (k := k) g1 x y Ng
    rw [sb] at this
    left; omega
  · have := dist_lt (k := k) g1 x y Ng
    rw [sc] at this
    right; left; omega
  · have := dist_lt (k := k) g1 x y Ng
    rw [sc] at this
    right; right; omega
theorem bits_all {k : Nat} (hk : k ≤ 6) : bits (2 ^ k - 1) = List.range k := by
  have : ((List.range 7).all fun k => decide (bits (2 ^ k - 1) = List.range k)) = true := by decide +kernel
  exact of_decide_eq_true (List.all_eq_true.mp this k (List.mem_range.mpr (by omega)))
abbrev relT (o : List Nat) (t : Nat → Bool) : Nat → Bool := fun m => t (im o m)
theorem s_in_order {n k : Nat} {o : List Nat} {t : Nat → Bool} {s : St} (g : Good k t) (ho : o.Perm (List.range k)) : callF P (n + 9) 12 [bookD k t, .lst (o.map nI)] s = .ok (bookD k (relT o t)) s := by
  have hk := g.k6
  have hO := ord_of ho
  have hl : o.length = k := by rw [ho.length_eq, List.length_range]
  have hn := s_is_numbers (n := n + 5) (b := false) (l := o) (s := s) (by omega)
  have hn : callF P (n + 7 + 1) 28 [.lst (o.map nI)] s = .ok (.bl true) s := hn
  have hs := bi_sorted (b := false) (l := o) (m := 2 ^ k - 1) (by rw [bits_all hk]; exact ho)
  rw [bits_all hk] at hs
  have hs : biD .sorted (.lst (o.map nI)) = some (.fl ((List.range k).map nI)) := hs
  have hq : eqD (.lst ((List.range k).map nI)) (.lst ((List.range k).map nI)) = some true := by
    rw [eqs_nat.lst.eqD (by omega) (fun _ _ => trivial) fun _ _ => trivial]
    simp
  have hB := big_nat (show k ≤ 1000000 by omega)
  have hR := rngOk_nat (show k ≤ 1000000 by omega)
  have hB2 := big_nat (show (grL k t).length ≤ 1000000 by have := gr_small (k := k) (t := t); omega)
  rw [call_eq (q := f12) rfl rfl _ rfl]
  simp -implicitDefEqProofs [f12, hn, hs, hq, f_many, -fldD_ins, hB, hR]
  rw [loopC_all (e := nI) (g := fun i => nI (o.idxOf i)) fun i hi => by
    have hm : i ∈ o := ho.mem_iff.mpr hi
    simp -implicitDefEqProofs [pmT, pm_index hm]]
  have ep : (List.range k).map (fun i => nI (o.idxOf i)) = ((List.range k).map fun i => o.idxOf i).map nI := by rw [List.map_map]; rfl
  rw [ep]
  generalize hp : (List.range k).map (fun i => o.idxOf i) = p at *
  have pl : p.length = k := by rw [← hp, List.length_map, List.length_range]
  simp -implicitDefEqProofs [f_many, f_greatest, -fldD_ins, hB2]
  rw [loopC_all (e := lotD) (g := fun m => Dat.lst ((bits (im p m)).map nI)) fun m hm => by
    have hm' := ((mem_gr hk).mp hm).1
    have hb := big_nat (show (bits m).length ≤ 1000000 by have := bits_len (m := m); omega)
    simp -implicitDefEqProofs [hb]
    rw [loopC_all (e := nI) (g := fun i => nI (p.getD i 0)) fun i hi => by
      simp -implicitDefEqProofs [ix_nat (show i < p.length by rw [pl]; exact bits_k hm' hi)]]
    have e : (bits m).map (fun i => nI (p.getD i 0)) = ((bits m).map fun i => p.getD i 0).map nI := by rw [List.map_map]; rfl
    rw [e]
    have hs2 := bi_sorted (b := false) (im_perm hk hO.sw hm')
    have hs2 : biD .sorted (.lst (((bits m).map fun i => p.getD i 0).map nI)) = some (.fl ((bits (im p m)).map nI)) := hs2
    simp -implicitDefEqProofs [hs2, -List.map_map, -List.getD_eq_getElem?_getD]]
  have mk := s_mk_book (n := n) (b := false) (xs := (grL k t).map fun m => (im p m, false, bits (im p m))) (s := s) (good_im hk hO g) ⟨⟨by rw [List.length_map]; have := gr_small (k := k) (t := t); omega, fun x hx => by
    obtain ⟨m, hm, rfl⟩ := List.mem_map.mp hx
    exact ⟨im_lt hO.sw ((mem_gr hk).mp hm).1, .refl _⟩⟩, by
    rw [List.map_map]
    exact gr_im hk hO⟩
  have e : sqD false (((grL k t).map fun m => (im p m, false, bits (im p m))).map tolD) = .lst ((grL k t).map fun m => Dat.lst ((bits (im p m)).map nI)) := by
    show Dat.lst _ = Dat.lst _
    rw [List.map_map]
    rfl
  rw [e] at mk
  simp -implicitDefEqProofs [mk]
end I81m

set_option linter.all false
set_option maxRecDepth 100000
set_option maxHeartbeats 2000000
namespace I81m
open Z (Dat Cell St Env Res opt view raw settle live BOp COp big binop toPy toPys shapedO eqD isInts inD isStr isNonD cmpop truth ixD ixL cut slD BI LM PM CR Tgt HE IE IT It IS FunI ClsI Prog bindT wipeE tyIs isiD npOf plainC isiOk ownEq datC fldD belowC excQ hasFld evH evHs isBls isStrs isTupD seqOf maxI minI cmpD ltD encD isT1 isN0 okP okSort sortD sortZ biD bi2D rngOk rngD joinD pmD pmT isLst lmD fmtD keyD valD putD setIxD putK permD loopC Fl loopF loopW Fun setAll ev evT evs evD evF evO evI exS exB parG storeFld storeIx runF callF REx)
open PySem (Str PyData)
open Z.Res
open ME I81
abbrev strI (i : Nat) : Str := (toString (i : Int) : Str)
theorem str_len {i : Nat} (h : i < 7) : (strI i).length ≤ 1 := by
  have : (List.range 7).all (fun i => decide ((strI i).length ≤ 1)) = true := by decide +kernel
  exact of_decide_eq_true (List.all_eq_true.mp this i (List.mem_range.mpr h))
theorem bi_str {i : Nat} (h : i < 7) : biD .str (nI i) = some (.str (strI i)) := by
  show (if decide ((i : Int).natAbs.log2 < 1920) then some (Dat.str (toString (i : Int))) else none) = _
  rw [if_pos]
  have : (List.range 7).all (fun i => decide ((i : Int).natAbs.log2 < 1920)) = true := by decide +kernel
  exact List.all_eq_true.mp this i (List.mem_range.mpr h)
theorem fm_int {i : Nat} (h : i < 7) : Z.fmtD (nI i) = some (strI i) := by
  show (if decide ((i : Int).natAbs.log2 < 1920) then some (toString (i : Int) : Str) else none) = _
  rw [if_pos]
  have : (List.range 7).all (fun i => decide ((i : Int).natAbs.log2 < 1920)) = true := by decide +kernel
  exact List.all_eq_true.mp this i (List.mem_range.mpr h)
theorem isStrs_map {α : Type} {f : α → Str} : ∀ {l : List α}, isStrs (l.map fun x => Dat.str (f x)) = some (l.map f)
  | [] => rfl
  | x :: r => by
    show (isStrs (r.map fun x => Dat.str (f x))).map _ = _
    rw [isStrs_map]
    rfl
theorem join_map {α : Type} {f : α → Str} {sep : Str} {l : List α} {B : Nat} (hB : ∀ x ∈ l, (f x).length ≤ B) (hb : l.length * B + sep.length * l.length ≤ 1000000) :
    pmD .join (.str sep) [.lst (l.map fun x => Dat.str (f x))] = some (.str (PySem.Txt.join sep (l.map f))) ∧ (PySem.Txt.join sep (l.map f)).length ≤ l.length * B + sep.length * l.length := by
  have hs : ((l.map f).map Str.length).sum ≤ l.length * B := by
    clear hb
    induction l with
    | nil => simp
    | cons x r ih =>
      have h1 := hB x List.mem_cons_self
      have h2 := ih fun y hy => hB y (List.mem_cons_of_mem _ hy)
      simp only [List.map_cons, List.sum_cons, List.length_cons, Nat.succ_mul] at *
      omega
  constructor
  · show (isStrs (l.map fun x => Dat.str (f x))).bind (fun ys => joinD sep ys) = _
    rw [isStrs_map]
    show (if big (((l.map f).map Str.length).sum + sep.length * (l.map f).length) then some (Dat.str (PySem.Txt.join sep (l.map f))) else none) = _
    rw [if_pos (big_nat (by rw [List.length_map]; omega))]
  · have := PySem.size_glued sep (l.map f)
    show (PySem.Builtin.Str.glued sep (l.map f)).length ≤ _
    have hs' : ((l.map f).map (·.length)).sum ≤ l.length * B := hs
    rw [this, List.length_map]
    have : (l.length - 1) * sep.length ≤ sep.length * l.length := by rw [Nat.mul_comm]; exact Nat.mul_le_mul_left _ (by omega)
    omega
theorem s_str {n k : Nat} {t : Nat → Bool} {s : St} (hk : k ≤ 6) : ∃ x : Str, callF P (n + 2) 49 [bookD k t] s = .ok (.str x) s := by
  have hB := big_nat (show (grL k t).length ≤ 1000000 by have := gr_small (k := k) (t := t); omega)
  have hg := gr_small (k := k) (t := t)
  have inner : ∀ m, pmD .join (.str (Str.ofString " ")) [.lst ((bits m).map fun i => Dat.str (strI i))] = some (.str (PySem.Txt.join (Str.ofString " ") ((bits m).map strI))) ∧ (PySem.Txt.join (Str.ofString " ") ((bits m).map strI)).length ≤ 12 := fun m => by
    have hl := bits_len (m := m)
    have h1 : (Str.ofString " ").length = 1 := by decide +kernel
    obtain ⟨a, b⟩ := join_map (f := strI) (sep := Str.ofString " ") (l := bits m) (B := 1) (fun i hi => str_len (by have := bits_lt hi; omega)) (by rw [h1]; omega)
    exact ⟨a, by rw [h1] at b; omega⟩
  have h3 : (Str.ofString " / ").length = 3 := by decide +kernel
  obtain ⟨o1, o2⟩ := join_map (f := fun m => PySem.Txt.join (Str.ofString " ") ((bits m).map strI)) (sep := Str.ofString " / ") (l := grL k t) (B := 12) (fun m _ => (inner m).2) (by rw [h3]; omega)
  rw [h3] at o2
  generalize hJ : PySem.Txt.join (Str.ofString " / ") ((grL k t).map fun m => PySem.Txt.join (Str.ofString " ") ((bits m).map strI)) = J at o1 o2
  have a1 : (Str.empty ++ strI k).length ≤ 1 := by
    rw [PySem.Str.length_append]
    have := str_len (i := k) (by omega)
    have e0 : Str.empty.length = 0 := by decide +kernel
    omega
  have a2 : (Str.empty ++ strI k ++ Str.ofString " : ").length ≤ 4 := by
    rw [PySem.Str.length_append]
    have e0 : (Str.ofString " : ").length = 3 := by decide +kernel
    omega
  have a3 : (Str.empty ++ strI k ++ Str.ofString " : " ++ J).length ≤ 1000000 := by
    rw [PySem.Str.length_append]
    omega
  have f1 : Z.fmtD (.str (Str.ofString " : ")) = some (Str.ofString " : ") := by
    show (if big (Str.ofString " : ").length then some (Str.ofString " : ") else none) = _
    rw [if_pos (by decide +kernel)]
  have f2 : Z.fmtD (.str J) = some J := by
    show (if big J.length then some J else none) = _
    rw [if_pos (big_nat (by omega))]
  refine ⟨Str.empty ++ strI k ++ Str.ofString " : " ++ J, ?_⟩
  rw [call_eq (q := f49) rfl rfl _ rfl]
  simp -implicitDefEqProofs [f49, pmT, f_greatest, -fldD_ins, hB]
  rw [loopC_all (e := lotD) (g := fun m => Dat.str (PySem.Txt.join (Str.ofString " ") ((bits m).map strI))) fun m hm => by
    have hb := big_nat (show (bits m).length ≤ 1000000 by have := bits_len (m := m); omega)
    simp -implicitDefEqProofs [hb]
    rw [loopC_all (e := nI) (g := fun i => Dat.str (strI i)) fun i hi => by
      simp -implicitDefEqProofs [bi_str (show i < 7 by have := bits_lt hi; omega)]]
    simp -implicitDefEqProofs
    rw [(inner m).1]
    simp -implicitDefEqProofs]
  simp -implicitDefEqProofs
  rw [o1]
  simp -implicitDefEqProofs [f_many, -fldD_ins, fm_int (show k < 7 by omega), f1, f2, big_nat (show (Str.empty ++ strI k).length ≤ 1000000 by omega), big_nat (show (Str.empty ++ strI k ++ Str.ofString " : ").length ≤ 1000000 by omega), big_nat a3]
def badQ : ClsI := (clss[6]?).getD {}
theorem c_bad : P.clss[6]? = some badQ := (rfl)
theorem q_bad : badQ.flds = [9] := (rfl)
def misQ : ClsI := (clss[2]?).getD {}
theorem c_mis : P.clss[2]? = some misQ := (rfl)
theorem q_mis : misQ.flds = [9] := (rfl)
/-- no book -/
structure NoBook (d : Dat) : Prop where
  c : isC d = true
  ok : isiOk P d = true
  no : isiD P d (.own 0) = false
theorem s_bad {n : Nat} {d : Dat} {p : Str} {s : St} (h : NoBook d) : callF P (n + 2) 21 [d, .str p] s = .err 6 [(9, .str p)] s := by
  rw [call_eq (q := f21) rfl rfl _ rfl]
  simp -implicitDefEqProofs [f21, raw_c h.c, view_c h.c, h.ok, h.no, c_bad, q_bad]
theorem m_bad1 {n : Nat} {d e f : Dat} {s : St} (h : NoBook d) : callF P (n + 3) 7 [d, e, f] s = .err 6 [(9, .str (Str.ofString "one"))] s := by
  rw [call_eq (q := f7) rfl rfl _ rfl]
  simp -implicitDefEqProofs [f7, s_bad h, raw_c h.c]
theorem m_bad2 {n k : Nat} {a : Nat → Bool} {d f : Dat} {s : St} (h : NoBook d) : callF P (n + 3) 7 [bookD k a, d, f] s = .err 6 [(9, .str (Str.ofString "other"))] s := by
  rw [call_eq (q := f7) rfl rfl _ rfl]
  simp -implicitDefEqProofs [f7, s_bad h, raw_c h.c, s_need_book]
theorem m_bad3 {n k j : Nat} {a b : Nat → Bool} {d : Dat} {s : St} (h : NoBook d) : callF P (n + 3) 7 [bookD k a, bookD j b, d] s = .err 6 [(9, .str (Str.ofString "third"))] s := by
  rw [call_eq (q := f7) rfl rfl _ rfl]
  simp -implicitDefEqProofs [f7, s_bad h, raw_c h.c, s_need_book]
theorem m_misfit {n k j i : Nat} {a b c : Nat → Bool} {s : St} (h : ¬ (k = j ∧ j = i)) : callF P (n + 3) 7 [bookD k a, bookD j b, bookD i c] s = .err 2 [(9, .str (Str.ofString "bars"))] s := by
  rw [call_eq (q := f7) rfl rfl _ rfl]
  simp -implicitDefEqProofs [f7, s_need_book, f_many, -fldD_ins]
  by_cases q : k = j
  · have q2 : ¬ j = i := fun z => h ⟨q, z⟩
    have q3 : ¬ (j : Int) = (i : Int) := by omega
    simp -implicitDefEqProofs [q, q2, q3, c_mis, q_mis]
  · have q3 : ¬ (k : Int) = (j : Int) := by omega
    simp -implicitDefEqProofs [q, q3, c_mis, q_mis]
def t3 (m : Nat) : Bool := [1, 2, 4].any fun o => sub m o
def t4 (m : Nat) : Bool := [3, 5, 9].any fun o => sub m o
theorem good3 : Good 3 t3 := by
  refine ⟨by decide, by decide, fun m hm => ?_, fun m i hm hi e => ?_⟩
  · have : ((List.range (2 ^ 3)).all fun m => t3 (co 3 m) == !t3 m) = true := by decide +kernel
    simpa using List.all_eq_true.mp this m (List.mem_range.mpr hm)
  · have : ((List.range (2 ^ 3)).all fun m => (List.range 3).all fun i => !t3 (m ||| 2 ^ i) || t3 m) = true := by decide +kernel
    have := List.all_eq_true.mp (List.all_eq_true.mp this m (List.mem_range.mpr hm)) i (List.mem_range.mpr hi)
    simpa [e] using this
theorem good4 : Good 4 t4 := by
  refine ⟨by decide, by decide, fun m hm => ?_, fun m i hm hi e => ?_⟩
  · have : ((List.range (2 ^ 4)).all fun m => t4 (co 4 m) == !t4 m) = true := by decide +kernel
    simpa using List.all_eq_true.mp this m (List.mem_range.mpr hm)
  · have : ((List.range (2 ^ 4)).all fun m => (List.range 4).all fun i => !t4 (m ||| 2 ^ i) || t4 m) = true := by decide +kernel
    have := List.all_eq_true.mp (List.all_eq_true.mp this m (List.mem_range.mpr hm)) i (List.mem_range.mpr hi)
    simpa [e] using this
theorem makes3 : Makes 3 t3 [(1, false, [0]), (2, false, [1]), (4, false, [2])] := by
  refine ⟨⟨by decide, fun x hx => ?_⟩, ?_⟩
  · simp at hx
    rcases hx with rfl | rfl | rfl
    · exact ⟨by decide, by rw [show bits 1 = [0] by decide +kernel]⟩
    · exact ⟨by decide, by rw [show bits 2 = [1] by decide +kernel]⟩
    · exact ⟨by decide, by rw [show bits 4 = [2] by decide +kernel]⟩
  · rw [show grL 3 t3 = [1, 2, 4] by decide +kernel]
    exact .refl _
theorem makes4 : Makes 4 t4 [(3, false, [0, 1]), (5, false, [0, 2]), (9, false, [0, 3])] := by
  refine ⟨⟨by decide, fun x hx => ?_⟩, ?_⟩
  · simp at hx
    rcases hx with rfl | rfl | rfl
    · exact ⟨by decide, by rw [show bits 3 = [0, 1] by decide +kernel]⟩
    · exact ⟨by decide, by rw [show bits 5 = [0, 2] by decide +kernel]⟩
    · exact ⟨by decide, by rw [show bits 9 = [0, 3] by decide +kernel]⟩
  · rw [show grL 4 t4 = [3, 5, 9] by decide +kernel]
    exact .refl _
theorem mk3 {n : Nat} {s : St} : mkD P (callF P (n + 7)) 0 [.int 3, .lst [.lst [.int 0], .lst [.int 1], .lst [.int 2]]] s = .ok (bookD 3 t3) s := by
  have e : [Dat.int 3, .lst [.lst [.int 0], .lst [.int 1], .lst [.int 2]]] = [nI 3, sqD false ([(1, false, [0]), (2, false, [1]), (4, false, [2])].map tolD)] := rfl
  rw [e]
  exact s_mk_book good3 makes3
theorem mk4 {n : Nat} {s : St} : mkD P (callF P (n + 7)) 0 [.int 4, .lst [.lst [.int 0, .int 1], .lst [.int 0, .int 2], .lst [.int 0, .int 3]]] s = .ok (bookD 4 t4) s := by
  have e : [Dat.int 4, .lst [.lst [.int 0, .int 1], .lst [.int 0, .int 2], .lst [.int 0, .int 3]]] = [nI 4, sqD false ([(3, false, [0, 1]), (5, false, [0, 2]), (9, false, [0, 3])].map tolD)] := rfl
  rw [e]
  exact s_mk_book good4 makes4
theorem hear_bad {p : Str} : evH P 6 [(9, .str p)] hd__law_heard = some (.tup [.str (Str.ofString "book"), .str p]) := by
  rfl
theorem hear_mis {p : Str} : evH P 2 [(9, .str p)] hd__law_heard = some (.tup [.str (Str.ofString "misfit"), .str p]) := by
  rfl
theorem ex_bad : excQ P 6 = true := by rfl
theorem bl_bad : belowC P 6 [1] = true := by rfl
theorem ex_mis : excQ P 2 = true := by rfl
theorem bl_mis : belowC P 2 [1] = true := by rfl
theorem m_str : bookC.meths.lookup 6 = some 49 := (rfl)
theorem heard_eq : eqD (.lst [.tup [.str (Str.ofString "book"), .str (Str.ofString "one")], .tup [.str (Str.ofString "book"), .str (Str.ofString "other")], .tup [.str (Str.ofString "book"), .str (Str.ofString "third")], .tup [.str (Str.ofString "misfit"), .str (Str.ofString "bars")], .tup [.str (Str.ofString "misfit"), .str (Str.ofString "bars")], .tup [.str (Str.ofString "misfit"), .str (Str.ofString "bars")]])
    (.lst [.tup [.str (Str.ofString "book"), .str (Str.ofString "one")], .tup [.str (Str.ofString "book"), .str (Str.ofString "other")], .tup [.str (Str.ofString "book"), .str (Str.ofString "third")], .tup [.str (Str.ofString "misfit"), .str (Str.ofString "bars")], .tup [.str (Str.ofString "misfit"), .str (Str.ofString "bars")], .tup [.str (Str.ofString "misfit"), .str (Str.ofString "bars")]]) = some true := by decide +kernel
theorem s_refused {n k : Nat} {b : Nat → Bool} {h : Hat} {t : St} (g : Good k b) (hat : h.at_ + 1 ≤ 100000) :
    ∃ h', callF P (n + 10) 14 [.obj 0, nI k, bookD k b] (hatC h :: t) = .ok (.bl true) (hatC h' :: t) ∧ h'.at_ ≤ h.at_ + 1 := by
  obtain ⟨x, hx⟩ := s_str (n := n + 7) (t := b) (s := hatC h :: t) g.k6
  have hx : callF P (n + 8 + 1) 49 [bookD k b] (hatC h :: t) = .ok (.str x) (hatC h :: t) := hx
  obtain ⟨d, h1, hd, e1, b1⟩ := s_one (n := n + 6) (b := false) (xs := [.non, .int 5, .str x, lotsD (grL k b), .lst [bookD k b], .bl true]) (t := t) (h := h) (by simp) (by simp) (fun x hx => by simp at hx; rcases hx with rfl | rfl | rfl | rfl | rfl | rfl <;> rfl) (by omega)
  have e1 : callF P (n + 8 + 1) 2 [.obj 0, .lst [.non, .int 5, .str x, lotsD (grL k b), .lst [bookD k b], .bl true]] (hatC h :: t) = .ok d (hatC h1 :: t) := e1
  have nb : NoBook d := by
    simp at hd
    rcases hd with rfl | rfl | rfl | rfl | rfl | rfl <;> exact ⟨rfl, rfl, rfl⟩
  have far : ∃ (j : Nat) (f : Nat → Bool), ¬ j = k ∧ ∀ {s : St} {x : Dat}, (if (3 : Int) < (k : Int) then mkD P (callF P (n + 8)) 0 [.int 3, .lst [.lst [.int 0], .lst [.int 1], .lst [.int 2]]] s else mkD P (callF P (n + 8)) 0 [.int 4, .lst [.lst [.int 0, .int 1], .lst [.int 0, .int 2], .lst [.int 0, .int 3]]] s) = .ok (bookD j f) s := by
    have k3 := g.k3
    by_cases q : (3 : Int) < (k : Int)
    · exact ⟨3, t3, by omega, fun {s x} => by rw [if_pos q]; exact mk3⟩
    · exact ⟨4, t4, by omega, fun {s x} => by rw [if_neg q]; exact mk4⟩
  obtain ⟨j, f, hj, hf⟩ := far
  refine ⟨h1, ?_, b1⟩
  rw [call_eq (q := f14) rfl rfl _ rfl]
  simp -implicitDefEqProofs [f14, c_book, m_str, hx, isStr, f_greatest, -fldD_ins, e1, raw_c nb.c]
  rw [hf (x := .non)]
  have hj2 : ¬ k = j := fun z => hj z.symm
  have n1 : ∀ {s : St}, callF P (n + 8 + 1) 7 [bookD k b, bookD k b, bookD j f] s = .err 2 [(9, .str (Str.ofString "bars"))] s := m_misfit (n := n + 6) (by simp [hj2])
  have n2 : ∀ {s : St}, callF P (n + 8 + 1) 7 [bookD k b, bookD j f, bookD k b] s = .err 2 [(9, .str (Str.ofString "bars"))] s := m_misfit (n := n + 6) (by simp [hj2])
  have n3 : ∀ {s : St}, callF P (n + 8 + 1) 7 [bookD j f, bookD k b, bookD k b] s = .err 2 [(9, .str (Str.ofString "bars"))] s := m_misfit (n := n + 6) (by simp [hj])
  have n4 : ∀ {e f : Dat} {s : St}, callF P (n + 8 + 1) 7 [d, e, f] s = .err 6 [(9, .str (Str.ofString "one"))] s := m_bad1 (n := n + 6) nb
  have n5 : ∀ {s : St}, callF P (n + 8 + 1) 7 [bookD j f, d, d] s = .err 6 [(9, .str (Str.ofString "other"))] s := m_bad2 (n := n + 6) nb
  have n6 : ∀ {s : St}, callF P (n + 8 + 1) 7 [bookD k b, bookD j f, d] s = .err 6 [(9, .str (Str.ofString "third"))] s := m_bad3 (n := n + 6) nb
  have l1 : ∀ {xs : List Dat} {y : Dat}, xs.length < 16777216 → lmD .append xs [y] = some (xs ++ [y], .non) := fun h => lmD_append h
  simp -implicitDefEqProofs [raw_c nb.c, n1, n2, n3, n4, n5, n6, ex_bad, bl_bad, hear_bad, ex_mis, bl_mis, hear_mis, l1]
  have m3 : ∀ {x : Dat}, binop .mul (.lst [x]) (.int 3) = some (.fl [x, x, x]) := fun {x} => by rfl
  have ad : ∀ {xs ys : List Dat}, binop .add (.lst xs) (.lst ys) = if big (xs.length + ys.length) then some (.fl (xs ++ ys)) else none := fun {xs ys} => rfl
  simp -implicitDefEqProofs [m3, ad, heard_eq]
theorem s_hat {n : Nat} {ns : List Int} {s : St} (hl : ns.length ≤ 63) : ∃ h : Hat, callF P (n + 2) 1 [.rol ns] s = .ok (.obj s.length) (s ++ [hatC h]) ∧ h.at_ = 0 := by
  have hB := big_nat (show (cut ns none (some 60)).length ≤ 1000000 by have := cut_len (l := ns) (lo := none) (hi := some 60); omega)
  refine ⟨⟨cut ns none (some 60), 0, 0⟩, ?_, rfl⟩
  rw [call_eq (q := f1) rfl rfl _ rfl]
  simp -implicitDefEqProofs [f1, hB]
  rw [loopC_all (e := fun i : Int => Dat.int i) (g := fun i : Int => Dat.int i) fun i hi => by simp -implicitDefEqProofs]
  simp -implicitDefEqProofs
def lapB : List IS := match f0.body with
  | [_, .forS _ _ b, _] => b
  | _ => []
theorem m_order : bookC.meths.lookup 2 = some 12 := (rfl)
theorem np_order : npOf P 12 = 2 := (rfl)
theorem s_rest {n k : Nat} {a b c : Nat → Bool} {ns : List Int} {h : Hat} {t : St} {x2 x4 x6 x7 x8 x9 x10 x11 x12 : Option Dat} (ha : Good k a) (hb : Good k b) (hc : Good k c) (hat : h.at_ + 2450 ≤ 100000) :
    ∃ (δ' : Env) (h' : Hat), exB P (callF P (n + 13)) (callF P (n + 12)) (lapB.drop 3) [some (.rol ns), some (.obj 0), x2, some (nI k), x4, some (.obj (t.length + 1)), x6, x7, x8, x9, x10, x11, x12] (hatC h :: (t ++ [.lst [shD k a, shD k b, shD k c]])) = .ok (.nx, δ') (hatC h' :: (t ++ [.froz (.lst [shD k a, shD k b, shD k c])])) ∧
      (∃ y2 y3 y4 y5 y6 y7 y8 y9 y10 y11 y12, δ' = [some (.rol ns), some (.obj 0), y2, y3, y4, y5, y6, y7, y8, y9, y10, y11, y12]) ∧ h'.at_ ≤ h.at_ + 2450 := by
  have hk := ha.k6
  have hM := ha.maj hb hc
  have ec := s_counted (n := n + 10) (k := k) (a := a) (b := b) (c := c) (d := .obj (t.length + 1)) (s := hatC h :: (t ++ [.lst [shD k a, shD k b, shD k c]])) (s1 := hatC h :: (t ++ [.froz (.lst [shD k a, shD k b, shD k c])])) hk rfl settle_lstC settle_frzC (by simp)
  generalize ht : t ++ [.froz (.lst [shD k a, shD k b, shD k c])] = t1 at *
  obtain ⟨h1, e1, b1⟩ := s_book (n := n + 4) (t := t1) (h := h) ha (by omega)
  obtain ⟨h2, e2, b2⟩ := s_book (n := n + 4) (t := t1) (h := h1) hb (by omega)
  obtain ⟨h3, e3, b3⟩ := s_book (n := n + 4) (t := t1) (h := h2) hc (by omega)
  obtain ⟨h4, e4, b4⟩ := s_book (n := n + 4) (t := t1) (h := h3) hM (by omega)
  obtain ⟨ys, h5, hp, e5, b5⟩ := s_mixed (n := n + 10) (b := false) (xs := (List.range k).map nI) (t := t1) (h := h4) (by rw [List.length_map, List.length_range]; omega) nat_c (by rw [List.length_map, List.length_range]; omega)
  obtain ⟨o, ho, rfl⟩ := perm_map_inv hp rfl
  rw [List.length_map, List.length_range] at b5
  obtain ⟨h6, e6, b6⟩ := s_alone (n := n + 1) (t := t1) (h := h5) ha hb hc (by omega)
  obtain ⟨h7, e7, b7⟩ := s_refused (n := n + 3) (t := t1) (h := h6) ha (by omega)
  obtain ⟨l, e8, d8, _⟩ := s_steps_between (n := n + 2) (s := hatC h4 :: t1) ha hM
  have ec : callF P (n + 13) 5 [nI k, .obj (t.length + 1)] (hatC h :: (t ++ [.lst [shD k a, shD k b, shD k c]])) = .ok (shD k (maj a b c)) (hatC h :: t1) := ec
  have e1 : callF P (n + 13) 6 [.obj 0, nI k, shD k a] (hatC h :: t1) = .ok (bookD k a) (hatC h1 :: t1) := e1
  have e2 : callF P (n + 13) 6 [.obj 0, nI k, shD k b] (hatC h1 :: t1) = .ok (bookD k b) (hatC h2 :: t1) := e2
  have e3 : callF P (n + 13) 6 [.obj 0, nI k, shD k c] (hatC h2 :: t1) = .ok (bookD k c) (hatC h3 :: t1) := e3
  have e4 : callF P (n + 13) 6 [.obj 0, nI k, shD k (maj a b c)] (hatC h3 :: t1) = .ok (bookD k (maj a b c)) (hatC h4 :: t1) := e4
  have e5 : callF P (n + 13) 11 [.obj 0, .lst ((List.range k).map nI)] (hatC h4 :: t1) = .ok (.lst (o.map nI)) (hatC h5 :: t1) := e5
  have e6 : callF P (n + 13) 13 [.obj 0, .lst [bookD k a, bookD k b, bookD k c], bookD k (maj a b c)] (hatC h5 :: t1) = .ok (.bl true) (hatC h6 :: t1) := e6
  have e7 : callF P (n + 13) 14 [.obj 0, nI k, bookD k a] (hatC h6 :: t1) = .ok (.bl true) (hatC h7 :: t1) := e7
  have e8 : callF P (n + 13) 10 [bookD k a, bookD k (maj a b c)] (hatC h4 :: t1) = .ok (stepsD l) (hatC h4 :: t1) := e8
  have e9 : callF P (n + 13) 8 [.lst [bookD k a, bookD k b, bookD k c], bookD k (maj a b c)] (hatC h4 :: t1) = .ok (.bl true) (hatC h4 :: t1) := s_passed (n := n + 1) ha hb hc
  have qt : ∀ (x y : Nat → Bool) (s : St), (∀ m, m < 2 ^ k → x m = y m) → callF P (n + 12) 48 [bookD k x, bookD k y] s = .ok (.bl true) s := fun x y s hxy => by
    rw [s_eq (n := n + 10) hk, decide_eq_true (gr_congr hxy)]
  have q1 := fun s => qt (maj c a b) (maj a b c) s fun m _ => by unfold maj; cases a m <;> cases b m <;> cases c m <;> rfl
  have q2 := fun s => qt (maj b a c) (maj a b c) s fun m _ => by unfold maj; cases a m <;> cases b m <;> cases c m <;> rfl
  have q3 := fun s => qt (maj a b a) a s fun m _ => by unfold maj; cases a m <;> cases b m <;> rfl
  have q4 := fun s => qt (maj (maj a b c) c (maj a b c)) (maj a b c) s fun m _ => by unfold maj; cases a m <;> cases b m <;> cases c m <;> rfl
  have q5 := fun s => qt (maj a b c) (maj a b c) s fun m _ => rfl
  have q6 := fun s => qt (maj (relT o a) (relT o b) (relT o c)) (relT o (maj a b c)) s fun m _ => rfl
  have hO := ord_of ho
  have ga := good_im hk hO ha
  have gb := good_im hk hO hb
  have gc := good_im hk hO hc
  have sh : eqD (lotsD (shL k (maj a b c))) (lotsD (shL k (maj a b c))) = some true := by
    rw [eqs_lot.tup.eqD (by omega) (fun m hm => lt64 hk ((mem_sh hk).mp hm).1) fun m hm => lt64 hk ((mem_sh hk).mp hm).1]
    simp
  have hR := rngOk_nat (show k ≤ 1000000 by omega)
  have hB := big_nat (show k ≤ 1000000 by omega)
  have lc : ∀ {f : Dat → St → Z.Res (Option Dat)} {x : Dat} {r : List Dat} {s : St}, loopC f (x :: r) s = (f x s).bnd fun o s => (loopC f r s).bnd fun ys s => .ok (o.toList ++ ys) s := fun {f x r s} => rfl
  have ln : ∀ {f : Dat → St → Z.Res (Option Dat)} {s : St}, loopC f [] s = .ok [] s := fun {f s} => rfl
  have fz : settle (.obj (t.length + 1)) (hatC h :: t1) = .ok (.lst [shD k a, shD k b, shD k c]) (hatC h :: t1) := by rw [← ht]; exact settle_frzC
  have vz : ∀ (g : Hat), view (hatC g :: t1) (.obj (t.length + 1)) = .lst [shD k a, shD k b, shD k c] := fun g => by rw [← ht]; exact view_objC
  simp -implicitDefEqProofs [lapB, f0, setAll, ec, fz, lc, ln, e1, e2, e3, s_majority ha hb hc, isi_book, isiOk_book, c_book, m_short, np_short, s_short_lots hk, List.lookup, sh, o_ne, e4, q5, s_majority hc ha hb, s_majority hb ha hc, q1, q2, s_majority ha hb ha, s_majority hM hc hM, q3, q4, vz, s_apart hk, e8, d_lots, d8, e9]
  simp -implicitDefEqProofs [hR, hB, e5, m_order, np_order, c_book, List.lookup, s_in_order ha ho, s_in_order hb ho, s_in_order hc ho, s_in_order hM ho, lc, ln, s_majority ga gb gc, o_ne, q6, e6, e7]
  exact ⟨_, h7, ⟨rfl, rfl, rfl, rfl⟩, ⟨_, _, _, _, _, _, _, _, _, _, _, rfl⟩, by omega⟩
theorem s_first {n : Nat} {ns : List Int} {h : Hat} {t : St} {x2 x3 x4 x5 x6 x7 x8 x9 x10 x11 x12 : Option Dat} (hat : h.at_ + 70 ≤ 100000) :
    ∃ (k : Nat) (a b c : Nat → Bool) (h' : Hat), Good k a ∧ Good k b ∧ Good k c ∧ exB P (callF P (n + 13)) (callF P (n + 12)) (lapB.take 3) [some (.rol ns), some (.obj 0), x2, x3, x4, x5, x6, x7, x8, x9, x10, x11, x12] (hatC h :: t) =
      .ok (.nx, [some (.rol ns), some (.obj 0), x2, some (nI k), x4, some (.obj (t.length + 1)), x6, x7, x8, x9, x10, x11, x12]) (hatC h' :: (t ++ [.lst [shD k a, shD k b, shD k c]])) ∧ h'.at_ ≤ h.at_ + 70 := by
  obtain ⟨x, h1, hx, e1, b1⟩ := s_one (n := n + 10) (b := false) (xs := [.int 5, .int 4, .int 6, .int 3, .int 5]) (t := t) (h := h) (by decide) (by decide) (fun x hx => by simp at hx; rcases hx with rfl | rfl | rfl | rfl | rfl <;> rfl) (by omega)
  obtain ⟨k, rfl, k3, k6⟩ : ∃ k : Nat, x = nI k ∧ 3 ≤ k ∧ k ≤ 6 := by
    simp at hx
    rcases hx with rfl | rfl | rfl | rfl | rfl
    · exact ⟨5, rfl, by decide, by decide⟩
    · exact ⟨4, rfl, by decide, by decide⟩
    · exact ⟨6, rfl, by decide, by decide⟩
    · exact ⟨3, rfl, by decide, by decide⟩
    · exact ⟨5, rfl, by decide, by decide⟩
  have e1 : callF P (n + 13) 2 [.obj 0, .lst [.int 5, .int 4, .int 6, .int 3, .int 5]] (hatC h :: t) = .ok (nI k) (hatC h1 :: t) := e1
  obtain ⟨a, h2, ga, e2, b2⟩ := s_shorts (n := n + 8) (t := t) (h := h1) k3 k6 (by omega)
  obtain ⟨b, h3, gb, e3, b3⟩ := s_shorts (n := n + 8) (t := t) (h := h2) k3 k6 (by omega)
  obtain ⟨c, h4, gc, e4, b4⟩ := s_shorts (n := n + 8) (t := t) (h := h3) k3 k6 (by omega)
  have e2 : callF P (n + 13) 3 [.obj 0, nI k] (hatC h1 :: t) = .ok (shD k a) (hatC h2 :: t) := e2
  have e3 : callF P (n + 13) 3 [.obj 0, nI k] (hatC h2 :: t) = .ok (shD k b) (hatC h3 :: t) := e3
  have e4 : callF P (n + 13) 3 [.obj 0, nI k] (hatC h3 :: t) = .ok (shD k c) (hatC h4 :: t) := e4
  obtain ⟨r, h5, e5, hr, b5⟩ := s_lot (n := n + 11) (m := 5) (t := t ++ [.lst [shD k a, shD k b, shD k c]]) (h := h4) (by decide) (by decide) (by omega)
  have e5 : callF P (n + 13) 4 [.obj 0, .int 5] (hatC h4 :: (t ++ [.lst [shD k a, shD k b, shD k c]])) = .ok (nI r) (hatC h5 :: (t ++ [.lst [shD k a, shD k b, shD k c]])) := e5
  have lc : ∀ {f : Dat → St → Z.Res (Option Dat)} {x : Dat} {r : List Dat} {s : St}, loopC f (x :: r) s = (f x s).bnd fun o s => (loopC f r s).bnd fun ys s => .ok (o.toList ++ ys) s := fun {f x r s} => rfl
  have ln : ∀ {f : Dat → St → Z.Res (Option Dat)} {s : St}, loopC f [] s = .ok [] s := fun {f s} => rfl
  have r3 : (List.range 3).map nI = [nI 0, nI 1, nI 2] := rfl
  have o3 : rngOk 3 = true := rfl
  by_cases q : r = 0
  · obtain ⟨i, h6, e6, hi, b6⟩ := s_lot (n := n + 11) (m := 3) (t := t ++ [.lst [shD k a, shD k b, shD k c]]) (h := h5) (by decide) (by decide) (by omega)
    have e6 : callF P (n + 13) 4 [.obj 0, .int 3] (hatC h5 :: (t ++ [.lst [shD k a, shD k b, shD k c]])) = .ok (nI i) (hatC h6 :: (t ++ [.lst [shD k a, shD k b, shD k c]])) := e6
    have q2 : (r : Int) = 0 := by omega
    have st := storeIx_lstC (d := hatC h6) (m := i) (xs := [shD k a, shD k b, shD k c]) (v := shD k a) (t := t) (by simpa using hi)
    have set3 : ∃ a' b' c', Good k a' ∧ Good k b' ∧ Good k c' ∧ [shD k a, shD k b, shD k c].set i (shD k a) = [shD k a', shD k b', shD k c'] := by
      match i, hi with
      | 0, _ => exact ⟨a, b, c, ga, gb, gc, rfl⟩
      | 1, _ => exact ⟨a, a, c, ga, ga, gc, rfl⟩
      | 2, _ => exact ⟨a, b, a, ga, gb, ga, rfl⟩
    obtain ⟨a', b', c', ga', gb', gc', es⟩ := set3
    rw [es] at st
    refine ⟨k, a', b', c', h6, ga', gb', gc', ?_, by omega⟩
    simp -implicitDefEqProofs [lapB, f0, e1, r3, o3, lc, ln, e2, e3, e4, e5, q2, e6, st]
  · have q2 : ¬ (r : Int) = 0 := by omega
    refine ⟨k, a, b, c, h5, ga, gb, gc, ?_, by omega⟩
    simp -implicitDefEqProofs [lapB, f0, e1, r3, o3, lc, ln, e2, e3, e4, e5, q, q2]
theorem law_body : f0.body = [.asg 1 false (.call 1 [.var 0] [.inl 0]), .forS (.name 2) (.rng1 (.const (.int 2))) lapB, .ret false (.const (.bl true))] := (rfl)
theorem s_law {n : Nat} {ns : List Int} (hl : ns.length ≤ 63) : ∃ st, callF P (n + 14) 0 [.rol ns] [] = .ok (.bl true) st := by
  obtain ⟨h0, e0, hz⟩ := s_hat (n := n + 11) (s := []) hl
  have e0 : callF P (n + 12 + 1) 1 [.rol ns] [] = .ok (.obj 0) [hatC h0] := e0
  have o2 : rngOk 2 = true := rfl
  rw [call_eq (q := f0) rfl rfl _ rfl, law_body, show f0.N = 13 from rfl, show f0.np = 1 from rfl]
  simp -implicitDefEqProofs [e0, o2]
  refine loop_at (e := nI) (xs := List.range 2) (fun r => ∃ st, fin (r.bnd _) _ = .ok (.bl true) st)
    (fun r δ s => ∃ (g : Hat) (t : St) (y2 y3 y4 y5 y6 y7 y8 y9 y10 y11 y12 : Option Dat), δ = [some (.rol ns), some (.obj 0), y2, y3, y4, y5, y6, y7, y8, y9, y10, y11, y12] ∧ s = hatC g :: t ∧ g.at_ + 2550 * r.length ≤ 5100) ⟨h0, [], none, none, none, none, none, none, none, none, none, none, none, rfl, rfl, by rw [hz]; simp⟩ ?_ ?_
  · rintro δ' s' ⟨g, t, y2, y3, y4, y5, y6, y7, y8, y9, y10, y11, y12, rfl, rfl, _⟩
    exact ⟨[], by simp -implicitDefEqProofs⟩
  · rintro x r δ s' ⟨g, t, y2, y3, y4, y5, y6, y7, y8, y9, y10, y11, y12, rfl, rfl, hg⟩
    rw [List.length_cons] at hg
    obtain ⟨k, a, b, c, h1, ga, gb, gc, e1, b1⟩ := s_first (n := n) (ns := ns) (h := g) (t := t) (x2 := some (nI x)) (x3 := y3) (x4 := y4) (x5 := y5) (x6 := y6) (x7 := y7) (x8 := y8) (x9 := y9) (x10 := y10) (x11 := y11) (x12 := y12) (by omega)
    obtain ⟨δ', h2, e2, ⟨z2, z3, z4, z5, z6, z7, z8, z9, z10, z11, z12, rfl⟩, b2⟩ := s_rest (n := n) (ns := ns) (h := h1) (t := t) (x2 := some (nI x)) (x4 := y4) (x6 := y6) (x7 := y7) (x8 := y8) (x9 := y9) (x10 := y10) (x11 := y11) (x12 := y12) ga gb gc (by omega)
    refine ⟨_, _, ?_, h2, t ++ [.froz (.lst [shD k a, shD k b, shD k c])], z2, z3, z4, z5, z6, z7, z8, z9, z10, z11, z12, rfl, rfl, by omega⟩
    simp -implicitDefEqProofs
    rw [← List.take_append_drop 3 lapB, exB_app, e1, bnd_ok]
    exact e2

end I81m

set_option Elab.async false
set_option linter.all false
set_option maxRecDepth 100000
set_option maxHeartbeats 0
namespace I81
open PySem PySem.Spec PyProof.Rows Z
def topS (i : Nat) : Stmt := PySem.Challenge.pw_ringbars_k81_majorities_of_three_books.main.body.getD i (.Pass ⟨0, 0, 0, 0⟩)
def rows_0 : List FRow := [⟨0, ⟨("law", none), "law", "law", L2.defArgs (topS 70), L2.defBody (topS 70), L2.defScope (topS 70), [], []⟩, 40, [5], false, false, ["_law_script", "_law_hat_here", "_law_lap", "_law_many", "_law_turn", "_law_rows", "_law_shorts_here", "_law_due", "_law_books", "_law_found", "_law_order", "_law_book_here", "_law_moved"], f0⟩,
  ⟨1, ⟨("_law_hat", none), "_law_hat", "_law_hat", L2.defArgs (topS 51), L2.defBody (topS 51), L2.defScope (topS 51), [], []⟩, 40, [], true, false, ["_law_script", "_law_cell"], f1⟩,
  ⟨2, ⟨("_law_one", none), "_law_one", "_law_one", L2.defArgs (topS 53), L2.defBody (topS 53), L2.defScope (topS 53), [], []⟩, 40, [], false, false, ["_law_hat_here", "_law_some"], f2⟩,
  ⟨3, ⟨("_law_shorts", none), "_law_shorts", "_law_shorts", L2.defArgs (topS 61), L2.defBody (topS 61), L2.defScope (topS 61), [], []⟩, 40, [], false, false, ["_law_hat_here", "_law_many", "_law_shorts_here", "_law_turn"], f3⟩,
  ⟨4, ⟨("_law_lot", none), "_law_lot", "_law_lot", L2.defArgs (topS 52), L2.defBody (topS 52), L2.defScope (topS 52), [], []⟩, 40, [], false, false, ["_law_hat_here", "_law_many", "_law_digit", "_law_at", "_law_cell", "_law_great", "_law_mixed_here"], f4⟩,
  ⟨5, ⟨("_law_counted", none), "_law_counted", "_law_counted", L2.defArgs (topS 65), L2.defBody (topS 65), L2.defScope (topS 65), [], []⟩, 40, [], false, false, ["_law_many", "_law_rows", "_law_lot_here", "_law_shorts_here"], f5⟩,
  ⟨6, ⟨("_law_book", none), "_law_book", "_law_book", L2.defArgs (topS 63), L2.defBody (topS 63), L2.defScope (topS 63), [], []⟩, 40, [], false, false, ["_law_hat_here", "_law_many", "_law_shorts_here", "_law_lot_here", "_law_told"], f6⟩,
  ⟨7, ⟨("majority", none), "majority", "majority", L2.defArgs (topS 46), L2.defBody (topS 46), L2.defScope (topS 46), [], []⟩, 40, [], false, false, ["one", "other", "third", "truths", "table"], f7⟩,
  ⟨8, ⟨("_law_passed_right", none), "_law_passed_right", "_law_passed_right", L2.defArgs (topS 67), L2.defBody (topS 67), L2.defScope (topS 67), [], []⟩, 40, [], false, false, ["_law_books", "_law_found", "_law_one_here", "_law_other", "_law_first", "_law_last"], f8⟩,
  ⟨9, ⟨("_law_apart", none), "_law_apart", "_law_apart", L2.defArgs (topS 66), L2.defBody (topS 66), L2.defScope (topS 66), [], []⟩, 40, [], false, false, ["_law_one_here", "_law_other", "_law_lot_here"], f9⟩,
  ⟨10, ⟨("steps_between", none), "steps_between", "steps_between", L2.defArgs (topS 45), L2.defBody (topS 45), L2.defScope (topS 45), [], []⟩, 40, [3], false, false, ["one", "other", "here", "found", "lot"], f10⟩,
  ⟨11, ⟨("_law_mixed", none), "_law_mixed", "_law_mixed", L2.defArgs (topS 62), L2.defBody (topS 62), L2.defScope (topS 62), [], []⟩, 40, [2], false, false, ["_law_hat_here", "_law_some", "_law_found", "_law_one_here"], f11⟩,
  ⟨12, ⟨("Book", some "in_order"), "in_order", "Book.in_order", L2.defArgs (L2.inClass (topS 32) 3), L2.defBody (L2.inClass (topS 32) 3), L2.defScope (L2.inClass (topS 32) 3), [], []⟩, 40, [], false, false, ["self", "order", "bar", "places", "lot"], f12⟩,
  ⟨13, ⟨("_law_alone_right", none), "_law_alone_right", "_law_alone_right", L2.defArgs (topS 68), L2.defBody (topS 68), L2.defScope (topS 68), [], []⟩, 40, [], false, false, ["_law_hat_here", "_law_books", "_law_found", "_law_near", "_law_book_here", "_law_sums", "_law_one_here", "_law_other", "_law_due"], f13⟩,
  ⟨14, ⟨("_law_refused_right", none), "_law_refused_right", "_law_refused_right", L2.defArgs (topS 69), L2.defBody (topS 69), L2.defScope (topS 69), [], []⟩, 40, [5], false, true, ["_law_hat_here", "_law_many", "_law_book_here", "_law_odd", "_law_far", "_law_heard_here"], f14⟩,
  ⟨15, ⟨("_law_of_lengths", none), "_law_of_lengths", "_law_of_lengths", L2.defArgs (topS 58), L2.defBody (topS 58), L2.defScope (topS 58), [], []⟩, 40, [], false, false, ["_law_lengths_here", "_law_total", "_law_lot_here", "_law_bar"], f15⟩,
  ⟨16, ⟨("_law_lengths", none), "_law_lengths", "_law_lengths", L2.defArgs (topS 60), L2.defBody (topS 60), L2.defScope (topS 60), [], []⟩, 40, [4], false, false, ["_law_hat_here", "_law_many", "_law_most", "_law_bar", "_law_found"], f16⟩,
  ⟨17, ⟨("_law_stepped", none), "_law_stepped", "_law_stepped", L2.defArgs (topS 59), L2.defBody (topS 59), L2.defScope (topS 59), [], []⟩, 40, [], false, false, ["_law_shorts_here", "_law_lot_here", "_law_many", "_law_one_here", "_law_told", "_law_pair"], f17⟩,
  ⟨18, ⟨("_law_greatest", none), "_law_greatest", "_law_greatest", L2.defArgs (topS 57), L2.defBody (topS 57), L2.defScope (topS 57), [], []⟩, 40, [1], false, false, ["_law_shorts_here", "_law_found", "_law_lot_here", "_law_other", "_law_pair"], f18⟩,
  ⟨19, ⟨("_law_lots", none), "_law_lots", "_law_lots", L2.defArgs (topS 54), L2.defBody (topS 54), L2.defScope (topS 54), [], []⟩, 40, [], false, false, ["_law_many", "_law_found", "_law_bar", "_law_lot_here", "_law_pair"], f19⟩,
  ⟨20, ⟨("Book", some "__init__"), "__init__", "Book.__init__", L2.defArgs (L2.inClass (topS 32) 0), L2.defBody (L2.inClass (topS 32) 0), L2.defScope (L2.inClass (topS 32) 0), [], []⟩, 40, [], false, false, ["self", "many", "greatest", "lots"], f20⟩,
  ⟨21, ⟨("need_book", none), "need_book", "need_book", L2.defArgs (topS 39), L2.defBody (topS 39), L2.defScope (topS 39), [], []⟩, 40, [], false, false, ["value", "part"], f21⟩,
  ⟨22, ⟨("greatest_of", none), "greatest_of", "greatest_of", L2.defArgs (topS 38), L2.defBody (topS 38), L2.defScope (topS 38), [], []⟩, 40, [1], false, false, ["table", "found", "mask", "is_short", "bar", "above", "one"], f22⟩,
  ⟨23, ⟨("shows_steps", none), "shows_steps", "shows_steps", L2.defArgs (topS 49), L2.defBody (topS 49), L2.defScope (topS 49), [], []⟩, 40, [], false, false, ["one", "other", "value", "here", "lot"], f23⟩,
  ⟨25, ⟨("need_books", none), "need_books", "need_books", L2.defArgs (topS 40), L2.defBody (topS 40), L2.defScope (topS 40), [], []⟩, 40, [], false, false, ["one", "other"], f25⟩]
def rows_1 : List FRow := [⟨26, ⟨("mask_of", none), "mask_of", "mask_of", L2.defArgs (topS 34), L2.defBody (topS 34), L2.defScope (topS 34), [], []⟩, 40, [], false, false, ["lot", "bar"], f26⟩,
  ⟨27, ⟨("step_by", none), "step_by", "step_by", L2.defArgs (topS 42), L2.defBody (topS 42), L2.defScope (topS 42), [], []⟩, 40, [2], false, false, ["book", "lot", "table"], f27⟩,
  ⟨28, ⟨("is_numbers", none), "is_numbers", "is_numbers", L2.defArgs (topS 5), L2.defBody (topS 5), L2.defScope (topS 5), [], []⟩, 40, [], false, false, ["value", "part"], f28⟩,
  ⟨29, ⟨("neighbours", none), "neighbours", "neighbours", L2.defArgs (topS 43), L2.defBody (topS 43), L2.defScope (topS 43), [], []⟩, 40, [], false, false, ["book", "lot"], f29⟩,
  ⟨30, ⟨("_law_others", none), "_law_others", "_law_others", L2.defArgs (topS 55), L2.defBody (topS 55), L2.defScope (topS 55), [], []⟩, 40, [], false, false, ["_law_lot_here", "_law_many", "_law_bar"], f30⟩,
  ⟨31, ⟨("_law_lies", none), "_law_lies", "_law_lies", L2.defArgs (topS 56), L2.defBody (topS 56), L2.defScope (topS 56), [], []⟩, 40, [], false, false, ["_law_one_here", "_law_other", "_law_bar"], f31⟩,
  ⟨32, ⟨("is_within", none), "is_within", "is_within", L2.defArgs (topS 4), L2.defBody (topS 4), L2.defScope (topS 4), [], []⟩, 40, [], false, false, ["value", "least", "most"], f32⟩,
  ⟨33, ⟨("lots_in", none), "lots_in", "lots_in", L2.defArgs (topS 25), L2.defBody (topS 25), L2.defScope (topS 25), [], []⟩, 40, [], false, false, ["value", "many", "part", "lot"], f33⟩,
  ⟨34, ⟨("table_by", none), "table_by", "table_by", L2.defArgs (topS 36), L2.defBody (topS 36), L2.defScope (topS 36), [], []⟩, 40, [], false, false, ["many", "lots", "lot", "masks", "one", "mask"], f34⟩,
  ⟨35, ⟨("lot_key", none), "lot_key", "lot_key", L2.defArgs (topS 33), L2.defBody (topS 33), L2.defScope (topS 33), [], []⟩, 40, [], false, false, ["lot"], f35⟩,
  ⟨36, ⟨("is_parted", none), "is_parted", "is_parted", L2.defArgs (topS 37), L2.defBody (topS 37), L2.defScope (topS 37), [], []⟩, 40, [], false, false, ["table", "mask", "is_short"], f36⟩,
  ⟨37, ⟨("lot_of", none), "lot_of", "lot_of", L2.defArgs (topS 35), L2.defBody (topS 35), L2.defScope (topS 35), [], []⟩, 40, [], false, false, ["mask", "bar"], f37⟩,
  ⟨38, ⟨("are_lots", none), "are_lots", "are_lots", L2.defArgs (topS 48), L2.defBody (topS 48), L2.defScope (topS 48), [], []⟩, 40, [], false, false, ["value", "many", "bar", "lot"], f38⟩,
  ⟨39, ⟨("parted_lots", none), "parted_lots", "parted_lots", L2.defArgs (topS 44), L2.defBody (topS 44), L2.defScope (topS 44), [], []⟩, 40, [], false, false, ["one", "other", "lot"], f39⟩,
  ⟨41, ⟨("is_integer", none), "is_integer", "is_integer", L2.defArgs (topS 3), L2.defBody (topS 3), L2.defScope (topS 3), [], []⟩, 40, [], false, false, ["value"], f41⟩,
  ⟨42, ⟨("lot_in", none), "lot_in", "lot_in", L2.defArgs (topS 24), L2.defBody (topS 24), L2.defScope (topS 24), [], []⟩, 40, [], false, false, ["value", "many", "part"], f42⟩,
  ⟨43, ⟨("is_lot", none), "is_lot", "is_lot", L2.defArgs (topS 6), L2.defBody (topS 6), L2.defScope (topS 6), [], []⟩, 40, [], false, false, ["value", "part", "one", "other"], f43⟩,
  ⟨44, ⟨("Book", some "short_lots"), "short_lots", "Book.short_lots", L2.defArgs (L2.inClass (topS 32) 2), L2.defBody (L2.inClass (topS 32) 2), L2.defScope (L2.inClass (topS 32) 2), [], []⟩, 40, [], false, false, ["self", "mask", "is_short", "found"], f44⟩,
  ⟨45, ⟨("fixed", none), "fixed", "fixed", L2.defArgs (topS 27), L2.defBody (topS 27), L2.defScope (topS 27), [], []⟩, 40, [], false, false, ["value", "part"], f45⟩,
  ⟨46, ⟨("need_lot_of", none), "need_lot_of", "need_lot_of", L2.defArgs (topS 23), L2.defBody (topS 23), L2.defScope (topS 23), [], []⟩, 40, [], false, false, ["many", "value", "part", "bar", "twice"], f46⟩,
  ⟨47, ⟨("first_twice", none), "first_twice", "first_twice", L2.defArgs (topS 7), L2.defBody (topS 7), L2.defScope (topS 7), [], []⟩, 40, [1], false, false, ["values", "seen", "value"], f47⟩,
  ⟨48, ⟨("Book", some "__eq__"), "__eq__", "Book.__eq__", L2.defArgs (L2.inClass (topS 32) 4), L2.defBody (L2.inClass (topS 32) 4), L2.defScope (L2.inClass (topS 32) 4), [], []⟩, 40, [], false, false, ["self", "other"], f48⟩,
  ⟨49, ⟨("Book", some "__str__"), "__str__", "Book.__str__", L2.defArgs (L2.inClass (topS 32) 5), L2.defBody (L2.inClass (topS 32) 5), L2.defScope (L2.inClass (topS 32) 5), [], []⟩, 40, [], false, false, ["self", "bar", "lot", "told"], f49⟩]
def rows : List FRow := rows_0 ++ rows_1
def srows_0 : List SRow := [⟨24, ⟨("Steps", some "__init__"), "__init__", "Steps.__init__", L2.defArgs (L2.inClass (topS 41) 0), L2.defBody (L2.inClass (topS 41) 0), L2.defScope (L2.inClass (topS 41) 0)⟩, 40, [], false, ["self", "lots", "__class__"], f24, 40, [4]⟩]
def srows : List SRow := srows_0
def vrows_0 : List FRow := [⟨40, ⟨("Paper", some "__init__"), "__init__", "Paper.__init__", L2.defArgs (L2.inClass (topS 28) 0), L2.defBody (L2.inClass (topS 28) 0), L2.defScope (L2.inClass (topS 28) 0), [], []⟩, 40, [], false, false, ["self", "word", "parts"], f40⟩]
def vrows : List FRow := vrows_0
def xrows_0 : List XRow := [⟨2, ⟨("Misfit", some "__init__"), "__init__", "Misfit.__init__", L2.defArgs (L2.inClass (topS 13) 0), L2.defBody (L2.inClass (topS 13) 0), L2.defScope (L2.inClass (topS 13) 0), [], []⟩, ["self", "part"], ["self", "part"]⟩,
  ⟨5, ⟨("BadNumber", some "__init__"), "__init__", "BadNumber.__init__", L2.defArgs (L2.inClass (topS 12) 0), L2.defBody (L2.inClass (topS 12) 0), L2.defScope (L2.inClass (topS 12) 0), [], []⟩, ["self", "part"], ["self", "part"]⟩,
  ⟨6, ⟨("BadBook", some "__init__"), "__init__", "BadBook.__init__", L2.defArgs (L2.inClass (topS 11) 0), L2.defBody (L2.inClass (topS 11) 0), L2.defScope (L2.inClass (topS 11) 0), [], []⟩, ["self", "part"], ["self", "part"]⟩,
  ⟨7, ⟨("BadLot", some "__init__"), "__init__", "BadLot.__init__", L2.defArgs (L2.inClass (topS 10) 0), L2.defBody (L2.inClass (topS 10) 0), L2.defScope (L2.inClass (topS 10) 0), [], []⟩, ["self", "part"], ["self", "part"]⟩,
  ⟨8, ⟨("Missing", some "__init__"), "__init__", "Missing.__init__", L2.defArgs (L2.inClass (topS 14) 0), L2.defBody (L2.inClass (topS 14) 0), L2.defScope (L2.inClass (topS 14) 0), [], []⟩, ["self", "value"], ["self", "value"]⟩,
  ⟨9, ⟨("NoBar", some "__init__"), "__init__", "Missing.__init__", L2.defArgs (L2.inClass (topS 14) 0), L2.defBody (L2.inClass (topS 14) 0), L2.defScope (L2.inClass (topS 14) 0), [], []⟩, ["self", "value"], ["self", "value"]⟩,
  ⟨10, ⟨("Twice", some "__init__"), "__init__", "Twice.__init__", L2.defArgs (L2.inClass (topS 16) 0), L2.defBody (L2.inClass (topS 16) 0), L2.defScope (L2.inClass (topS 16) 0), [], []⟩, ["self", "value"], ["self", "value"]⟩]
def xrows : List XRow := xrows_0
def hrows_0 : List HRow := [⟨"_law_heard", ⟨("_law_heard", none), "_law_heard", "_law_heard", L2.defArgs (topS 64), L2.defBody (topS 64), L2.defScope (topS 64), [], []⟩, ["_law_ask", "_law_heard_here", "error"], 40, "_law_ask", 1, hd__law_heard⟩]
def hrows : List HRow := hrows_0
def loose_0 : List Str := ["_wall",
  "__name__",
  "DIGITS",
  "is_integer",
  "is_within",
  "is_numbers",
  "is_lot",
  "first_twice",
  "RingError",
  "BadLot",
  "BadBook",
  "BadNumber",
  "Misfit",
  "Missing",
  "NoBar",
  "Twice",
  "BadText",
  "MOST_DIGITS",
  "number_in",
  "Scan",
  "need_lot_of",
  "lot_in",
  "lots_in",
  "fixed",
  "Paper"]
def loose_1 : List Str := ["FEWEST",
  "MOST",
  "Book",
  "lot_key",
  "mask_of",
  "lot_of",
  "table_by",
  "is_parted",
  "greatest_of",
  "need_book",
  "need_books",
  "Steps",
  "step_by",
  "neighbours",
  "parted_lots",
  "steps_between",
  "majority",
  "are_lots",
  "shows_steps",
  "_law_hat",
  "_law_lot",
  "_law_one",
  "_law_lots",
  "_law_others",
  "_law_lies"]
def loose_2 : List Str := ["_law_greatest",
  "_law_of_lengths",
  "_law_stepped",
  "_law_lengths",
  "_law_shorts",
  "_law_mixed",
  "_law_book",
  "_law_heard",
  "_law_counted",
  "_law_apart",
  "_law_passed_right",
  "_law_alone_right",
  "_law_refused_right"]
def loose : List Str := loose_0 ++ loose_1 ++ loose_2
def D : Desc := ⟨L, rows, srows, vrows, xrows, hrows⟩
abbrev R : PySem.W.OpenRow := PySem.W.OpenLaw.row PySem.Challenge.rw_ringbars_k81_majorities_of_three_books
abbrev qv : Program := PySem.W.view R.prog [70]
theorem st : D.static = true := by kernel_rfl
theorem t_hd : D.L.T.hd = D.hrows.map fun r => (r.x, (r.b, r.h)) := by kernel_rfl
theorem t_hrows : D.hrows.map (fun r => cHd D.L.T ⟨r.N, r.d.scope, none, false⟩ r.aN r.n r.d.body) = D.hrows.map fun r => some (r.b, r.h) := by kernel_rfl
theorem t_srows : D.srows.map (fun r => (D.L.P.funs[r.g]?, cSup D.L.T r.n r.mu r.rl r.N r.d.scope r.g2 r.cs r.d.body)) = D.srows.map fun r => (some r.q, some r.q.body) := by kernel_rfl
theorem t_vrows : D.vrows.map (fun r => (D.L.P.funs[r.g]?, cB D.L.T (cET D.L.T r.n).1 (cET D.L.T r.n).2 r.mu r.rl ⟨r.N, r.d.scope, none, false⟩ r.n r.d.body)) = D.vrows.map fun r => (some r.q, some r.q.body) := by kernel_rfl
theorem t_rows : D.rows.map (fun r => (D.L.P.funs[r.g]?, cB D.L.T (cET D.L.T r.n).1 (cET D.L.T r.n).2 r.mu r.rl ⟨r.N, r.d.scope, none, r.lam⟩ r.n r.d.body)) = D.rows.map fun r => (some r.q, some r.q.body) := by kernel_rfl
end I81

set_option Elab.async false
set_option linter.all false
set_option maxRecDepth 100000
set_option maxHeartbeats 0
namespace I81
open PySem PySem.Spec PyProof.Rows Z
abbrev hk : PySem.W.Hook := hookL D R.prog.main.file 4
def ob (s : PySem.W.SharedT) : AlL := obsL D R.prog.main.file 4 (HandSHeadRun.getT s)
theorem ob_eq (s : PySem.W.SharedT) : ob s = hk.obs s.abs := obsL_eq (HandSHeadRun.getT_eq s)
theorem run (w : World) : HandSHeadRun.RunEq R qv hk ob 6000 loose w := by
  intro os
  kernel_rfl
end I81

set_option Elab.async false
set_option linter.all false
set_option maxRecDepth 100000
set_option maxHeartbeats 0
namespace I81
open PySem PySem.Spec PyProof.Rows Z
theorem descOk : DescOk D := ⟨st, ⟨t_rows, t_vrows, t_srows, t_hrows, t_hd, fun c e => by
  show (clss[c]?).bind (·.init) = none
  have e : clss[c]? = none := e
  rw [e]; rfl⟩, by kernel_rfl⟩
end I81
open PySem PySem.W PySem.Calls PyProof.Rows
theorem PySem.Challenge.cw_ringbars_k81_majorities_of_three_books_holds : PySem.Challenge.rw_ringbars_k81_majorities_of_three_books.Holds := by
  have g : Z.Goal I81.P 30 0 := fun ns hl _ => I81m.s_law (n := 16) hl
  w_on; o_law
  refine HandSHeadRun.head_any (r := I81.R) (q := I81.qv) (H := I81.hk) (ob := I81.ob) (M := 6000) (loose := I81.loose) (d := HandSHeadRun.topDef I81.R.prog 70) (kwd := []) I81.ob_eq
    (by kernel_rfl) (fun s => by kernel_rfl) I81.run (by kernel_rfl) (by kernel_rfl) (by kernel_rfl) (by rfl) (by first | assumption | decide +kernel) (by decide +kernel) ⟨rfl, rfl, rfl, rfl, rfl, by decide +kernel⟩ ?hw ?hc
  case hw => w_witness2
  case hc =>
    exact Z.walk_L (l := PySem.Challenge.rw_ringbars_k81_majorities_of_three_books) (n := 4) I81.descOk g (by decide) (by decide) ⟨_, rfl⟩ rfl (by kernel_rfl) (by kernel_rfl) (by kernel_rfl) (by kernel_rfl)
