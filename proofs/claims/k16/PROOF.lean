import PyProof.Rows.All
import Wide.All
import OpenK.AllK
import Wide.FinOn
import KE.KStateDown
import Lean
import HandS.Base
import HandS.Call
import HandS.Ends
import HandS.More
import HandS.Words
import HandS.WordsExc
import HandS.Defaults
import HandS.Head0
import HandS.Head1
import HandS.Head2
import HandS.HeadEnd
import HandS.HeadHook1
import HandS.HeadHook2
import PySem.Str
import PyProof.StrBlockL
import PyProof.StrBlock2
import PyProof.StrCalls6
import PyProof.Rows.TmSorted
import KE.IntText
import HandS.ForMost
import HandS.Exc
import HandS.ExcOwn
import HandS.TryMany
import HandS.IsInst
import HandS.ExcIs
import HandS.Wide
import HandS.WideBits
import HandS.Zip
import HandS.TupAny
import HandS.Style
import HandS.TupSets
import HandS.NoneIn
import PyProof.LongRange
import HandS.Conv
import HandS.SortInts
import HandS.Text
import HandS.List
import HandS.ExcField
import KE.KExcIs
import HandS.SetFor
import HandS.ExcInit
import HandS.Dict
import HandS.Flow
import HandS.Flt
import PyProof.MaxThree
import PySem.Challenge.RW_sawsign_k16_whole_sum_far
set_option Elab.async false
set_option linter.all false
set_option maxRecDepth 100000
set_option maxHeartbeats 0
set_option exponentiation.threshold 10000
namespace Dv
open PySem

abbrev Key := Sum Int Str

/-- values, as trees -/
inductive D where
  | non | bl (b : Bool) | int (i : Int) | str (x : Str)
  | tup (ds : List D) | lst (ds : List D) | dic (kvs : List (Key × D))
  | scr (ns : List Int) | ty (n : String)
  deriving Inhabited

inductive Fl where | bor | arg | fro
  deriving DecidableEq
def Fl.inf : Fl → Fl → Fl
  | .bor, _ => .bor
  | .arg, .bor => .bor
  | .arg, .arg => .arg
  | .arg, .fro => .arg
  | .fro, g => g

/-- an expression's result: a value; a new list or dict; an own one, only read, with its elements' flag -/
inductive R where
  | v (f : Fl) (d : D) | n (f : Fl) (d : D) | b (f : Fl) (d : D)
def R.d : R → D
  | .v _ d => d
  | .n _ d => d
  | .b _ d => d

mutual
def D.pure : D → Bool
  | .tup ds => D.pureL ds
  | .lst _ => false
  | .dic _ => false
  | _ => true
def D.pureL : List D → Bool
  | [] => true
  | d :: ds => D.pure d && D.pureL ds
end
def R.fl : R → Fl
  | .v f d => if d.pure then .fro else f
  | .n f _ => f
  | .b _ _ => .bor
/-- what is told of the elements -/
def R.efl : R → Fl
  | .v f d => if d.pure then .fro else f
  | .n f _ => f
  | .b f _ => f
def flAll : List R → Fl
  | [] => .fro
  | r :: rs => r.fl.inf (flAll rs)

inductive Sl where
  | e | v (f : Fl) (d : D) | o (f : Fl) (d : D) | x (c : Str) (f : Str) (as : List D)
abbrev En := List Sl
/-- errors in hand forgotten -/
def Sl.noX : Sl → Sl
  | .x _ _ _ => .e
  | s => s
def dropX (env : En) : En := env.map Sl.noX

structure Exn where
  cls : Str
  fld : Str
  arg : List D

inductive Out where
  | ret (r : R) | exn (x : Exn)
abbrev FSpec := List D → (Out → Prop) → Prop

/-! equality of data -/
mutual
def D.eqb : D → D → Bool
  | .non, .non => true
  | .bl a, .bl b => a == b
  | .bl a, .int j => (if a then 1 else 0) == j
  | .int i, .bl b => i == (if b then 1 else 0)
  | .int i, .int j => i == j
  | .str x, .str y => x == y
  | .lst xs, .lst ys => D.eqbL xs ys
  | .tup xs, .tup ys => D.eqbL xs ys
  | _, _ => false
def D.eqbL : List D → List D → Bool
  | [], [] => true
  | x :: xs, y :: ys => D.eqb x y && D.eqbL xs ys
  | _, _ => false
end
def strOk (x : Str) : Bool := x.cps.all (· < 0x110000)
mutual
/-- may be compared: no dict, of bounded depth -/
def D.lay : Nat → D → Bool
  | n, .tup ds => (match n with | 0 => false | m + 1 => D.layL m ds)
  | n, .lst ds => (match n with | 0 => false | m + 1 => D.layL m ds)
  | _, .non => true
  | _, .bl _ => true
  | _, .int _ => true
  | _, .str x => strOk x
  | _, _ => false
def D.layL : Nat → List D → Bool
  | _, [] => true
  | n, d :: ds => D.lay n d && D.layL n ds
end

/-! syntax -/
inductive Bop where | add | sub | mul | fdiv | mod | pow
  deriving DecidableEq
inductive Cop where | eq | ne | lt | le | gt | ge | isin | notin | is | isnt
  deriving DecidableEq
inductive Bi where | abs | len | max | min | sum | list | tuple | sorted | int | all | any | divmod | lenset | str
  deriving DecidableEq
inductive Me where | count | index | split | join | find
  deriving DecidableEq

/-- what changes a list that others may hold: x.clear(), x.append(e), for t in x: t.append(e), for t in x: t[k].append(e) -/
inductive Wr where
  | clear | app | each (t : Nat) | at_ (t k : Nat)

abbrev KvL := List (Str × Int)
inductive Tg where
  | nm (i : Nat) | t2 (i j : Nat) | t3 (i j k : Nat) | t4 (i j k l : Nat) | tt (i j k l : Nat)

mutual
inductive E where
  | var (i : Nat) | int (i : Int) | bl (b : Bool) | non | str (s : Str)
  | bin (op : Bop) (a b : E) | neg (a : E) | notE (a : E) | andE (es : Es) | orE (es : Es)
  | cmp (op : Cop) (a b : E) | chain (o p : Cop) (a b c : E) | ite (c a b : E)
  | tup (es : Es) | lst (es : Es) | dic0 | dicC (kvs : KvL)
  | idx (a i : E) | sli (a : E) (lo hi : Eo) | revs (a : E)
  | call (f : Str) (sp : FSpec) (es : Es) | bi (f : Bi) (es : Es) | isi (a : E) (t : String) | isx (i : Nat) (c : Str) | isxs (i : Nat) (cs : List Str)
  | comp (t : Tg) (it : It) (c : Eo) (e : E)
  | lset (a : E) | rgv (t : Bool) (a : E) | rgv2 (t : Bool) (a b : E)
  | meth (m : Me) (a : E) (es : Es) | fld (i : Nat) (f : Str) | glob (x : Str) (d : D)
inductive Es where | nil | cons (e : E) (es : Es)
inductive Eo where | none | some (e : E)
inductive It where
  | seq (e : E) | range1 (a : E) | range2 (a b : E) | rangeW (a b : E) | zip (a b : E) | enum (a : E) | rev (a : E)
end

mutual
inductive S where
  | asg (t : Tg) (e : E) | par (i j : Nat) (a b : E) | aug (i : Nat) (e : E)
  | setIx (i : Nat) (k e : E) | app (i : Nat) (e : E) | appPop (i j : Nat) (k : E)
  | pop (j i : Nat) | popd (i : Nat) | popAt (i : Nat) (k : E) | rot (i : Nat) (k : E) | rev (i : Nat) | clear (i : Nat) | ext (i : Nat) (e : E) | ins (i : Nat) (k e : E)
  | augIx (i : Nat) (k e : E) | augAt (i : Nat) (a b e : E) | expr (e : E) | ret (e : E) | retv (i : Nat) | iff (c : E) (a b : Ss) | whl (c : E) (b : Ss) | for (t : Tg) (it : It) (b : Ss)
  | par3 (i j l : Nat) (a b c : E) | wreck (w : Wr) (i : Nat) (e : E) | nev | brk | cont | pass | raise (c : Str) (a : Eo) | tri (b : Ss) (hs : Hs) | frz (i : Nat)
inductive Ss where | nil | cons (s : S) (ss : Ss)
inductive Hs where | nil | cons (c : Str) (i : Option Nat) (b : Ss) (hs : Hs)
end

/-! values of operations -/
def line : Nat := 16777216
def mulOk (i j : Int) : Prop := (-(2 ^ 64) < i ∧ i < 2 ^ 64) ∨ (-(2 ^ 64) < j ∧ j < 2 ^ 64) ∨ i.natAbs.log2 + j.natAbs.log2 < 1000000
def divOk (j : Int) : Prop := j ≠ 0 ∧ j.natAbs.log2 < 9000
def binW (op : Bop) (x y : R) (Q : R → Prop) : Prop :=
  match op, x.d, y.d with
  | .add, .int i, .int j => Q (.v .fro (.int (i + j)))
  | .sub, .int i, .int j => Q (.v .fro (.int (i - j)))
  | .mul, .int i, .int j => mulOk i j ∧ Q (.v .fro (.int (i * j)))
  | .fdiv, .int i, .int j => divOk j ∧ Q (.v .fro (.int (i.fdiv j)))
  | .mod, .int i, .int j => j ≠ 0 ∧ Q (.v .fro (.int (i.fmod j)))
  | .pow, .int i, .int j => ((0 ≤ j ∧ j ≤ 1000000 ∧ i.natAbs < 2 ^ 64) ∨ (0 ≤ j ∧ j ≤ 1000 ∧ i.natAbs.log2 < 9000)) ∧ Q (.v .fro (.int (i ^ j.toNat)))
  | .add, .str a, .str b => a.length + b.length ≤ line ∧ Q (.v .fro (.str (a ++ b)))
  | .add, .lst a, .lst b => a.length + b.length ≤ line ∧ Q (.n (x.efl.inf y.efl) (.lst (a ++ b)))
  | .add, .tup a, .tup b => a.length + b.length ≤ line ∧ Q (.v (x.fl.inf y.fl) (.tup (a ++ b)))
  | .mul, .str a, .int k => (-(2 ^ 62) ≤ k ∧ k < 2 ^ 62 ∧ a.length * k.toNat ≤ 1000000) ∧ Q (.v .fro (.str (Txt.mul a k)))
  | .mul, .lst a, .int k => (-(2 ^ 63) ≤ k ∧ k < 2 ^ 63 ∧ a.length * k.toNat ≤ line) ∧ Q (.n x.efl (.lst (List.replicate k.toNat a).flatten))
  | _, _, _ => False
/-- flat things: what in, count, index ask -/
def D.flat : D → Bool
  | .non => true
  | .bl _ => true
  | .int _ => true
  | .str _ => true
  | _ => false
def keyOf : D → Option Key
  | .int i => some (.inl i)
  | .str x => some (.inr x)
  | _ => none
def keyD : Key → D
  | .inl i => .int i
  | .inr x => .str x
def dget (kvs : List (Key × D)) (k : Key) : Option D := (kvs.find? fun p => decide (p.1 = k)).map (·.2)
def dput (kvs : List (Key × D)) (k : Key) (d : D) : List (Key × D) :=
  if (kvs.any fun kv => decide (kv.1 = k)) = true then kvs.map (fun kv => if kv.1 = k then (kv.1, d) else kv) else kvs ++ [(k, d)]
def D.isNon : D → Bool
  | .non => true
  | _ => false
/-- the scalars that == tells apart -/
def D.scal : D → D → Bool
  | .non, .non => true | .non, .int _ => true | .int _, .non => true | .non, .bl _ => true | .bl _, .non => true | .non, .str _ => true | .str _, .non => true
  | .int _, .int _ => true | .bl _, .bl _ => true | .str _, .str _ => true
  | .int _, .str _ => true | .str _, .int _ => true | .bl _, .str _ => true | .str _, .bl _ => true
  | _, _ => false
def cmpOk (d e : D) : Bool := D.scal d e || (d.lay 60 && e.lay 60)
def cmpW (op : Cop) (x y : R) (Q : Bool → Prop) : Prop :=
  match op with
  | .eq => cmpOk x.d y.d = true ∧ Q (D.eqb x.d y.d)
  | .ne => cmpOk x.d y.d = true ∧ Q (!D.eqb x.d y.d)
  | .lt => (match x.d, y.d with | .int i, .int j => Q (decide (i < j)) | _, _ => False)
  | .le => (match x.d, y.d with | .int i, .int j => Q (decide (i ≤ j)) | _, _ => False)
  | .gt => (match x.d, y.d with | .int i, .int j => Q (decide (j < i)) | _, _ => False)
  | .ge => (match x.d, y.d with | .int i, .int j => Q (decide (j ≤ i)) | _, _ => False)
  | .isin => (match y.d with
    | .lst ds => x.d.flat = true ∧ ds.all D.flat = true ∧ Q (ds.any fun y => D.eqb y x.d)
    | .tup ds => x.d.flat = true ∧ ds.all D.flat = true ∧ Q (ds.any fun y => D.eqb y x.d)
    | .dic kvs => (match keyOf x.d with | some k => Q (dget kvs k).isSome | none => False)
    | .str z => (match x.d with | .str s => (match s.cps.toList with | [c] => Q (decide (c ∈ z.cps.toList)) | _ => False) | _ => False)
    | _ => False)
  | .notin => (match y.d with
    | .lst ds => x.d.flat = true ∧ ds.all D.flat = true ∧ Q (!ds.any fun y => D.eqb y x.d)
    | .tup ds => x.d.flat = true ∧ ds.all D.flat = true ∧ Q (!ds.any fun y => D.eqb y x.d)
    | .dic kvs => (match keyOf x.d with | some k => Q (!(dget kvs k).isSome) | none => False)
    | .str z => (match x.d with | .str s => (match s.cps.toList with | [c] => Q (!decide (c ∈ z.cps.toList)) | _ => False) | _ => False)
    | _ => False)
  | .is => (match y.d with | .non => Q x.d.isNon | .bl b => (match x.d with | .bl a => Q (decide (a = b)) | _ => False) | _ => False)
  | .isnt => (match y.d with | .non => Q (!x.d.isNon) | .bl b => (match x.d with | .bl a => Q (!decide (a = b)) | _ => False) | _ => False)
def truthW (x : R) (Q : Bool → Prop) : Prop :=
  match x.d with
  | .bl b => Q b
  | .int i => Q (i != 0)
  | .non => Q false
  | .lst ds => Q (!ds.isEmpty)
  | .tup ds => Q (!ds.isEmpty)
  | _ => False
def ixN (n : Nat) (i : Int) : Option Nat := if 0 ≤ i then (if i < n then some i.toNat else none) else if -(n : Int) ≤ i then some (i + n).toNat else none
def atI {α : Type} (xs : List α) (i : Int) : Option α := (ixN xs.length i).bind fun j => xs[j]?
def idxW (x i : R) (Q : R → Prop) : Prop :=
  match x.d, i.d with
  | .lst ds, .int k => (match atI ds k with | some d => Q (.v x.efl d) | none => False)
  | .tup ds, .int k => (match atI ds k with | some d => Q (.v x.fl d) | none => False)
  | .scr ns, .int k => (match atI ns k with | some n => Q (.v .fro (.int n)) | none => False)
  | .dic kvs, k => (match keyOf k with | some k => (match dget kvs k with | some d => Q (.v x.efl d) | none => False) | none => False)
  | .str z, .int k => z.length ≤ line ∧ (match atI z.cps.toList k with | some c => Q (.v .fro (.str ⟨#[c]⟩)) | none => False)
  | _, _ => False
def sIx (n d : Nat) : Option Int → Nat
  | none => d
  | some v => if v < 0 then (v + (n : Int)).toNat else min v.toNat n
def cut {α : Type} (xs : List α) (lo hi : Option Int) : List α := (xs.drop (sIx xs.length 0 lo)).take (sIx xs.length xs.length hi - sIx xs.length 0 lo)
def cutStr (z : Str) (lo hi : Option Int) : Str := ⟨(cut z.cps.toList lo hi).toArray⟩
def optI : Option R → Option (Option Int)
  | none => some none
  | some r => (match r.d with | .int i => some (some i) | _ => none)
def sliW (x : R) (lo hi : Option R) (Q : R → Prop) : Prop :=
  match optI lo, optI hi with
  | some l, some h => (match x.d with
    | .lst ds => Q (.n x.efl (.lst (cut ds l h)))
    | .tup ds => Q (.v x.fl (.tup (cut ds l h)))
    | .str z => z.length ≤ line ∧ Q (.v .fro (.str (cutStr z l h)))
    | _ => False)
  | _, _ => False
def revW (x : R) (Q : R → Prop) : Prop :=
  match x.d with
  | .lst ds => Q (.n x.efl (.lst ds.reverse))
  | _ => False
def intsOf : List D → Option (List Int)
  | [] => some []
  | .int i :: r => (intsOf r).map (i :: ·)
  | _ :: _ => none
def blsOf : List D → Option (List Bool)
  | [] => some []
  | .bl i :: r => (blsOf r).map (i :: ·)
  | _ :: _ => none
def strsOf : List D → Option (List Str)
  | [] => some []
  | .str i :: r => (strsOf r).map (i :: ·)
  | _ :: _ => none
def seqOf : D → Option (List D)
  | .lst ds => some ds
  | .tup ds => some ds
  | .str s => some (s.cps.toList.map fun c => .str ⟨#[c]⟩)
  | _ => none
def maxL : Int → List Int → Int
  | m, [] => m
  | m, x :: r => maxL (if x > m then x else m) r
def minL : Int → List Int → Int
  | m, [] => m
  | m, x :: r => minL (if x < m then x else m) r
def dedup : List Int → List Int
  | [] => []
  | x :: r => if x ∈ r then dedup r else x :: dedup r
/-- the ints of a list, each once, as they are met -/
def metL (ns : List Int) : List Int := ns.foldl (fun acc x => if acc.any (· == x) then acc else acc ++ [x]) []
def insS (x : Int) : List Int → List Int
  | [] => [x]
  | y :: r => if x ≤ y then x :: y :: r else y :: insS x r
def sortI : List Int → List Int
  | [] => []
  | x :: r => insS x (sortI r)
def biW (b : Bi) (xs : List R) (Q : R → Prop) : Prop :=
  match b, xs with
  | .abs, [x] => (match x.d with | .int i => Q (.v .fro (.int (if i < 0 then -i else i))) | _ => False)
  | .len, [x] => (match x.d with
    | .lst ds => Q (.v .fro (.int ds.length))
    | .tup ds => Q (.v .fro (.int ds.length))
    | .scr ns => Q (.v .fro (.int ns.length))
    | .dic _ => False
    | .str s => s.length ≤ line ∧ Q (.v .fro (.int s.length))
    | _ => False)
  | .max, [x, y] => (match x.d, y.d with | .int i, .int j => Q (.v .fro (.int (if j > i then j else i))) | _, _ => False)
  | .min, [x, y] => (match x.d, y.d with | .int i, .int j => Q (.v .fro (.int (if j < i then j else i))) | _, _ => False)
  | .min, [x, y, z] => (match x.d, y.d, z.d with | .int i, .int j, .int k => Q (.v .fro (.int (minL i [j, k]))) | _, _, _ => False)
  | .min, [x, y, z, w] => (match x.d, y.d, z.d, w.d with | .int i, .int j, .int k, .int l => Q (.v .fro (.int (minL i [j, k, l]))) | _, _, _, _ => False)
  | .max, [x] => (match x.d with
    | .lst ds => (match intsOf ds with | some (i :: r) => Q (.v .fro (.int (maxL i r))) | _ => False)
    | _ => False)
  | .min, [x] => (match x.d with
    | .lst ds => (match intsOf ds with | some (i :: r) => Q (.v .fro (.int (minL i r))) | _ => False)
    | _ => False)
  | .sum, [x] => (match x.d with
    | .lst ds => (match intsOf ds with | some r => Q (.v .fro (.int r.sum)) | _ => False)
    | _ => False)
  | .list, [x] => (match x.d with
    | .lst ds => Q (.n x.efl (.lst ds))
    | .tup ds => Q (.n x.fl (.lst ds))
    | .dic kvs => Q (.n .fro (.lst (kvs.map fun kv => keyD kv.1)))
    | _ => False)
  | .sorted, [x] => (match x.d with
    | .lst ds => (match intsOf ds with
      | some r => Q (.n .fro (.lst ((sortI r).map .int)))
      | none => (match strsOf ds with
        | some r => r.length < 64 ∧ ∀ ys : List Str, ys.Perm r → PyProof.Rows.sortedS ys = true → Q (.n .fro (.lst (ys.map .str)))
        | none => False))
    | _ => False)
  | .tuple, [x] => (match x.d with
    | .lst ds => Q (.v x.efl (.tup ds))
    | .tup ds => Q (.v x.fl (.tup ds))
    | _ => False)
  | .all, [x] => (match x.d with
    | .lst ds => (match blsOf ds with | some r => Q (.v .fro (.bl (r.all id))) | _ => False)
    | _ => False)
  | .any, [x] => (match x.d with
    | .lst ds => (match blsOf ds with | some r => Q (.v .fro (.bl (r.any id))) | _ => False)
    | _ => False)
  | .int, [x] => (match x.d with
    | .int i => Q (.v .fro (.int i))
    | .bl b => Q (.v .fro (.int (if b then 1 else 0)))
    | .str a => a.length ≤ 640 ∧ (match PySem.intText? a with | some n => Q (.v .fro (.int n)) | none => False)
    | _ => False)
  | .str, [x] => (match x.d with
    | .int i => i.natAbs.log2 < 1920 ∧ Q (.v .fro (.str (toString i)))
    | _ => False)
  | .divmod, [x, y] => (match x.d, y.d with
    | .int i, .int j => (0 < j ∧ j.natAbs.log2 < 9000) ∧ Q (.v .fro (.tup [.int (i / j), .int (i % j)]))
    | _, _ => False)
  | .lenset, _ => False
  | _, _ => False
/-- methods -/
def meT : Me → D → Bool
  | .count, .lst _ => true
  | .index, .lst _ => true
  | .split, .str _ => true
  | .join, .str _ => true
  | .find, .str _ => true
  | _, _ => false
def meW (m : Me) (x : R) (xs : List R) (Q : R → Prop) : Prop :=
  match m, x.d, xs with
  | .count, .lst ds, [y] => (y.d.flat = true ∧ ds.all D.flat = true) ∧ Q (.v .fro (.int (ds.countP fun z => D.eqb z y.d : Nat)))
  | .index, .lst ds, [y] => (y.d.flat = true ∧ ds.all D.flat = true) ∧ (match ds.findIdx? fun z => D.eqb z y.d with | some j => Q (.v .fro (.int (j : Nat))) | none => False)
  | .split, .str a, [y] => (match y.d with
    | .str b => ((b.length == 0) = false ∧ a.length + 2 ≤ line) ∧ Q (.n .fro (.lst ((Txt.split a b).map .str)))
    | _ => False)
  | .find, .str a, [y] => (match y.d with
    | .str b => Q (.v .fro (.int (Txt.find a b)))
    | _ => False)
  | .join, .str a, [y] => (match y.d with
    | .lst ds => (match strsOf ds with | some ys => (ys.map (·.length)).sum + ys.length * a.length ≤ 16777216 ∧ Q (.v .fro (.str (Txt.join a ys))) | none => False)
    | _ => False)
  | _, _, _ => False
/-- isinstance against a built-in class -/
def isTy : D → String → Option Bool
  | .non, _ => some false
  | .bl _, t => some (t == "bool" || t == "int")
  | .int _, t => some (t == "int")
  | .str _, t => some (t == "str")
  | .lst _, t => some (t == "list")
  | .tup _, t => some (t == "tuple")
  | .dic _, t => some (t == "dict")
  | _, _ => none

/-! storing -/
def slW (r : R) (Q : Sl → Prop) : Prop :=
  match r with
  | .v f d => if d.pure = true then Q (.v .fro d) else (f ≠ .bor ∧ Q (.v f d))
  | .n f d => f ≠ .bor ∧ Q (.o f d)
  | .b _ _ => False
def put1 (i : Nat) (f : Fl) (d : D) (env : En) (Q : En → Prop) : Prop := slW (.v f d) fun s => Q (env.set i s)
def tgW (t : Tg) (r : R) (env : En) (Q : En → Prop) : Prop :=
  match t with
  | .nm i => slW r fun s => Q (env.set i s)
  | .t2 i j => (match r.d with
    | .tup [a, b] => put1 i r.fl a env fun e => put1 j r.fl b e Q
    | .lst [a, b] => put1 i r.fl a env fun e => put1 j r.fl b e Q
    | _ => False)
  | .t3 i j k => (match r.d with
    | .tup [a, b, c] => put1 i r.fl a env fun e => put1 j r.fl b e fun e => put1 k r.fl c e Q
    | .lst [a, b, c] => put1 i r.fl a env fun e => put1 j r.fl b e fun e => put1 k r.fl c e Q
    | _ => False)
  | .t4 i j k l => (match r.d with
    | .tup [a, b, c, d] => put1 i r.fl a env fun e => put1 j r.fl b e fun e => put1 k r.fl c e fun e => put1 l r.fl d e Q
    | .lst [a, b, c, d] => put1 i r.fl a env fun e => put1 j r.fl b e fun e => put1 k r.fl c e fun e => put1 l r.fl d e Q
    | _ => False)
  | .tt i j k l => (match r.d with
    | .tup [.tup [a, b], .tup [c, d]] => put1 i r.fl a env fun e => put1 j r.fl b e fun e => put1 k r.fl c e fun e => put1 l r.fl d e Q
    | _ => False)
def tgS : Tg → List Nat
  | .nm i => [i]
  | .t2 i j => [i, j]
  | .t3 i j k => [i, j, k]
  | .t4 i j k l => [i, j, k, l]
  | .tt i j k l => [i, j, k, l]
def wipeE (env : En) : List Nat → En
  | [] => env
  | v :: vs => (wipeE env vs).set v .e

/-- what a comprehension makes of its items -/
def compL (t : Tg) (C : En → (Bool → Prop) → Prop) (B : En → (R → Prop) → Prop) (f : Fl) (env : En) : List D → (Fl → List D → Prop) → Prop
  | [], Q => Q .fro []
  | d :: ds, Q => tgW t (.v f d) env fun e => C e fun b => if b = true then B e fun r => compL t C B f env ds fun g ys => Q (r.fl.inf g) (r.d :: ys) else compL t C B f env ds Q

/-- none of these slots holds an own list -/
def notOwn (env : En) : List Nat → Prop
  | [] => True
  | i :: r => (match env[i]? with | some (.o _ _) => False | _ => True) ∧ notOwn env r
def rangeL (lo hi : Int) : List D := (List.range (hi - lo).toNat).map fun (i : Nat) => .int (lo + i)
def rgR (t : Bool) (m n : Int) : R := if t then .v .fro (.tup (rangeL m n)) else .n .fro (.lst (rangeL m n))
def ib (i : Int) : Prop := -(2 ^ 62) ≤ i ∧ i < 2 ^ 62
def callW (sp : FSpec) (xs : List R) (Q : R → Prop) (X : Exn → Prop) : Prop :=
  sp (xs.map R.d) fun o => match o with
    | .ret (.v .fro d) => Q (.v .fro d)
    | .ret (.v .arg d) => Q (.v (flAll xs) d)
    | .ret (.n .fro d) => Q (.n .fro d)
    | .ret (.n .arg d) => Q (.n (flAll xs) d)
    | .ret _ => False
    | .exn x => X x

def varW (env : En) (i : Nat) (Q : R → Prop) : Prop :=
  match env[i]? with
  | some (.v f d) => Q (.v f d)
  | some (.o f d) => Q (.b f d)
  | _ => False

/-- what the classes of the program's exceptions say -/
def subCls (c t : Str) : Bool := c == t || t == Str.ofString "SawError" || t == Str.ofString "ValueError"

def isiW (x : R) (t : String) (Q : Bool → Prop) : Prop :=
  match isTy x.d t with
  | some b => Q b
  | none => False
def isxW (env : En) (i : Nat) (cs : List Str) (Q : Bool → Prop) : Prop :=
  match env[i]? with
  | some (.x c _ _) => Q (cs.any fun t => subCls c t)
  | _ => False
def fldW (env : En) (i : Nat) (f : Str) (Q : R → Prop) : Prop :=
  match env[i]? with
  | some (.x _ g [d]) => if f = g then Q (.v .fro d) else False
  | _ => False

mutual
def wpE : E → En → (R → Prop) → (Exn → Prop) → Prop
  | .var i, env, Q, _ => varW env i Q
  | .int i, _, Q, _ => Q (.v .fro (.int i))
  | .bl b, _, Q, _ => Q (.v .fro (.bl b))
  | .non, _, Q, _ => Q (.v .fro .non)
  | .str s, _, Q, _ => Q (.v .fro (.str s))
  | .glob _ d, _, Q, _ => Q (.v .fro d)
  | .bin op a b, env, Q, X => wpE a env (fun x => wpE b env (fun y => binW op x y Q) X) X
  | .neg a, env, Q, X => wpE a env (fun x => match x.d with | .int i => Q (.v .fro (.int (-i))) | _ => False) X
  | .notE a, env, Q, X => wpE a env (fun x => truthW x fun b => Q (.v .fro (.bl (!b)))) X
  | .andE es, env, Q, X => wpAE es env Q X
  | .orE es, env, Q, X => wpOE es env Q X
  | .cmp op a b, env, Q, X => wpE a env (fun x => wpE b env (fun y => cmpW op x y fun c => Q (.v .fro (.bl c))) X) X
  | .chain o p a b c, env, Q, X => wpE a env (fun x => wpE b env (fun y => cmpW o x y fun k => if k = true then wpE c env (fun z => cmpW p y z fun c => Q (.v .fro (.bl c))) X else Q (.v .fro (.bl false))) X) X
  | .ite c a b, env, Q, X => wpT c env (fun k => if k = true then wpE a env Q X else wpE b env Q X) X
  | .tup es, env, Q, X => wpEs es env (fun rs => rs.length ≤ line ∧ Q (.v (flAll rs) (.tup (rs.map R.d)))) X
  | .lst es, env, Q, X => wpEs es env (fun rs => rs.length ≤ line ∧ Q (.n (flAll rs) (.lst (rs.map R.d)))) X
  | .dic0, _, Q, _ => Q (.n .fro (.dic []))
  | .dicC kvs, _, Q, _ => ((kvs.map (·.1)).Nodup ∧ kvs.length ≤ 15) ∧ Q (.n .fro (.dic (kvs.map fun kv => (.inr kv.1, .int kv.2))))
  | .idx a i, env, Q, X => wpE a env (fun x => wpE i env (fun y => idxW x y Q) X) X
  | .sli a lo hi, env, Q, X => wpE a env (fun x => wpEo lo env (fun l => optI l ≠ none ∧ wpEo hi env (fun h => sliW x l h Q) X) X) X
  | .revs a, env, Q, X => wpE a env (fun x => revW x Q) X
  | .call _ sp es, env, Q, X => wpEs es env (fun rs => callW sp rs Q X) X
  | .bi f es, env, Q, X => wpEs es env (fun rs => biW f rs Q) X
  | .isi a t, env, Q, X => wpE a env (fun x => isiW x t fun b => Q (.v .fro (.bl b))) X
  | .isx i c, env, Q, _ => isxW env i [c] fun b => Q (.v .fro (.bl b))
  | .isxs i cs, env, Q, _ => isxW env i cs fun b => Q (.v .fro (.bl b))
  | .comp t it c e, env, Q, X => wpItC it env (fun f ds => (ds.length ≤ line ∧ notOwn env (tgS t)) ∧
      compL t (fun e' Q' => wpC c e' Q') (fun e' Q' => wpE e e' Q' fun _ => False) f (wipeE env (tgS t)) ds fun g ys => Q (.n g (.lst ys))) X
  | .lset a, env, Q, X => wpE a env (fun x => match x.d with
    | .lst ds => (match intsOf ds with | some ns => (ns.length < 64 ∨ ns.Nodup ∧ ns.length ≤ 4000) ∧ Q (.v .fro (.int (metL ns).length)) | none => False)
    | _ => False) X
  | .rgv t a, env, Q, X => wpE a env (fun x => match x.d with | .int n => (ib n ∧ n ≤ line) ∧ Q (rgR t 0 n) | _ => False) X
  | .rgv2 t a b, env, Q, X => wpE a env (fun x => wpE b env (fun y => match x.d, y.d with | .int m, .int n => (ib m ∧ ib n ∧ n - m ≤ line) ∧ Q (rgR t m n) | _, _ => False) X) X
  | .meth m a es, env, Q, X => wpE a env (fun x => meT m x.d = true ∧ wpEs es env (fun rs => meW m x rs Q) X) X
  | .fld i f, env, Q, _ => fldW env i f Q
def wpT : E → En → (Bool → Prop) → (Exn → Prop) → Prop
  | .notE a, env, Q, X => wpT a env (fun b => Q (!b)) X
  | .andE es, env, Q, X => wpAT es env Q X
  | .orE es, env, Q, X => wpOT es env Q X
  | .cmp op a b, env, Q, X => wpE a env (fun x => wpE b env (fun y => cmpW op x y Q) X) X
  | .chain o p a b c, env, Q, X => wpE a env (fun x => wpE b env (fun y => cmpW o x y fun k => if k = true then wpE c env (fun z => cmpW p y z Q) X else Q false) X) X
  | .var i, env, Q, _ => varW env i fun x => truthW x Q
  | .bl b, _, Q, _ => Q b
  | .call f sp es, env, Q, X => wpEs es env (fun rs => callW sp rs (fun x => truthW x Q) X) X
  | .bi f es, env, Q, X => wpEs es env (fun rs => biW f rs fun x => truthW x Q) X
  | .isi a t, env, Q, X => wpE a env (fun x => isiW x t Q) X
  | .isx i c, env, Q, _ => isxW env i [c] Q
  | .isxs i cs, env, Q, _ => isxW env i cs Q
  | .idx a i, env, Q, X => wpE a env (fun x => wpE i env (fun y => idxW x y fun z => truthW z Q) X) X
  | _, _, _, _ => False
def wpAE : Es → En → (R → Prop) → (Exn → Prop) → Prop
  | .nil, _, _, _ => False
  | .cons e es, env, Q, X => (match es with
    | .nil => wpE e env Q X
    | .cons _ _ => wpE e env (fun x => match x.d with | .bl true => wpAE es env Q X | .bl false => Q (.v .fro (.bl false)) | _ => False) X)
def wpOE : Es → En → (R → Prop) → (Exn → Prop) → Prop
  | .nil, _, _, _ => False
  | .cons e es, env, Q, X => (match es with
    | .nil => wpE e env Q X
    | .cons _ _ => wpE e env (fun x => match x.d with | .bl false => wpOE es env Q X | .bl true => Q (.v .fro (.bl true)) | _ => False) X)
def wpAT : Es → En → (Bool → Prop) → (Exn → Prop) → Prop
  | .nil, _, _, _ => False
  | .cons e es, env, Q, X => (match es with
    | .nil => wpT e env Q X
    | .cons _ _ => wpT e env (fun k => if k = true then wpAT es env Q X else Q false) X)
def wpOT : Es → En → (Bool → Prop) → (Exn → Prop) → Prop
  | .nil, _, _, _ => False
  | .cons e es, env, Q, X => (match es with
    | .nil => wpT e env Q X
    | .cons _ _ => wpT e env (fun k => if k = true then Q true else wpOT es env Q X) X)
def wpEs : Es → En → (List R → Prop) → (Exn → Prop) → Prop
  | .nil, _, Q, _ => Q []
  | .cons e es, env, Q, X => wpE e env (fun r => wpEs es env (fun rs => Q (r :: rs)) X) X
def wpEo : Eo → En → (Option R → Prop) → (Exn → Prop) → Prop
  | .none, _, Q, _ => Q none
  | .some e, env, Q, X => wpE e env (fun r => Q (some r)) X
def wpC : Eo → En → (Bool → Prop) → Prop
  | .none, _, Q => Q true
  | .some e, env, Q => wpT e env Q fun _ => False
def wpIt : It → En → (Fl → List D → Prop) → (Exn → Prop) → Prop
  | .seq e, env, Q, X => wpE e env (fun x => match seqOf x.d with | some ds => Q x.fl ds | none => False) X
  | .range1 a, env, Q, X => wpE a env (fun x => match x.d with | .int n => ib n ∧ Q .fro (rangeL 0 n) | _ => False) X
  | .range2 a b, env, Q, X => wpE a env (fun x => wpE b env (fun y => match x.d, y.d with | .int m, .int n => ib m ∧ ib n ∧ Q .fro (rangeL m n) | _, _ => False) X) X
  | .rangeW a b, env, Q, X => wpE a env (fun x => wpE b env (fun y => match x.d, y.d with | .int m, .int n => Q .fro (rangeL m n) | _, _ => False) X) X
  | .zip a b, env, Q, X => wpE a env (fun x => wpE b env (fun y => match x.d, y.d with
    | .lst ds, .lst es => Q (x.fl.inf y.fl) (List.zipWith (fun a b => .tup [a, b]) ds es)
    | .tup ds, .tup es => Q (x.fl.inf y.fl) (List.zipWith (fun a b => .tup [a, b]) ds es)
    | _, _ => False) X) X
  | .enum a, env, Q, X => wpE a env (fun x => match x.d with
    | .lst ds => Q x.fl (ds.mapIdx fun i d => .tup [.int i, d])
    | _ => False) X
  | .rev a, env, Q, X => wpE a env (fun x => match x.d with
    | .lst ds => Q x.fl ds.reverse
    | _ => False) X
def wpItC : It → En → (Fl → List D → Prop) → (Exn → Prop) → Prop
  | .seq e, env, Q, X => wpE e env (fun x => match seqOf x.d with | some ds => Q x.efl ds | none => False) X
  | .range1 a, env, Q, X => wpE a env (fun x => match x.d with | .int n => ib n ∧ Q .fro (rangeL 0 n) | _ => False) X
  | .range2 a b, env, Q, X => wpE a env (fun x => wpE b env (fun y => match x.d, y.d with | .int m, .int n => ib m ∧ ib n ∧ Q .fro (rangeL m n) | _, _ => False) X) X
  | .rangeW a b, env, Q, X => wpE a env (fun x => wpE b env (fun y => match x.d, y.d with | .int m, .int n => Q .fro (rangeL m n) | _, _ => False) X) X
  | .zip a b, env, Q, X => wpE a env (fun x => wpE b env (fun y => match x.d, y.d with
    | .lst ds, .lst es => Q (x.efl.inf y.efl) (List.zipWith (fun a b => .tup [a, b]) ds es)
    | .tup ds, .tup es => Q (x.efl.inf y.efl) (List.zipWith (fun a b => .tup [a, b]) ds es)
    | _, _ => False) X) X
  | .enum a, env, Q, X => wpE a env (fun x => match x.d with
    | .lst ds => Q x.efl (ds.mapIdx fun i d => .tup [.int i, d])
    | _ => False) X
  | .rev a, env, Q, X => wpE a env (fun x => match x.d with
    | .lst ds => Q x.efl ds.reverse
    | _ => False) X
end

/-! statements -/
structure Ko where
  nx : En → Prop
  rt : R → Prop
  bk : En → Prop
  ct : En → Prop
  ex : Exn → En → Prop

def forL (t : Tg) (B : Ko → En → Prop) (k : Ko) (f : Fl) : List D → En → Prop
  | [], env => k.nx env
  | d :: ds, env => tgW t (.v f d) env fun e => B { k with nx := forL t B k f ds, ct := forL t B k f ds, bk := k.nx } e
def whlW (T : En → (Bool → Prop) → (Exn → Prop) → Prop) (B : Ko → En → Prop) (k : Ko) (env : En) : Prop :=
  ∃ I : Nat → En → Prop, (∃ n, I n env) ∧ ∀ n e, I n e →
    T e (fun b => if b = true then B { k with nx := fun e' => ∃ m, m < n ∧ I m e', ct := fun e' => ∃ m, m < n ∧ I m e', bk := k.nx } e else k.nx e) fun x => k.ex x e
def retW (r : R) (Q : R → Prop) : Prop :=
  match r with
  | .v f d => if d.pure = true then Q (.v .fro d) else (f ≠ .bor ∧ Q (.v f d))
  | .n f d => f ≠ .bor ∧ Q (.n f d)
  | .b _ _ => False
def retvW (env : En) (i : Nat) (Q : R → Prop) : Prop :=
  match env[i]? with
  | some (.v f d) => retW (.v f d) Q
  | some (.o f d) => Q (.n f d)
  | _ => False
def frzE (env : En) (i : Nat) : En :=
  match env[i]? with
  | some (.o f d) => env.set i (.v f d)
  | _ => env
/-- a stored list's element -/
def elW (r : R) (Q : Fl → D → Prop) : Prop := r.fl ≠ .bor ∧ Q r.fl r.d
def ownL (env : En) (i : Nat) (Q : Fl → List D → Prop) : Prop :=
  match env[i]? with
  | some (.o f (.lst ds)) => Q f ds
  | _ => False

def ownD (env : En) (i : Nat) (Q : Fl → D → Prop) : Prop :=
  match env[i]? with
  | some (.o f d) => Q f d
  | _ => False

def D.calmO : D → Bool
  | .lst ds => D.pureL ds
  | .dic kvs => D.pureL (kvs.map (·.2))
  | _ => false
/-- what holds no list that may change -/
def Sl.calm : Sl → Bool
  | .v _ d => d.pure
  | .o _ d => d.calmO
  | _ => true
def Sl.wr (s : Sl) : Sl := if s.calm = true then s else .e
def wreckE (env : En) : En := env.map Sl.wr
/-- an element with one inner list -/
inductive Inn : Option Nat → D → List D → Prop
  | each {es : List D} : D.pureL es = true → Inn none (.lst es) es
  | at_ {k : Nat} {fs es : List D} : fs[k]? = some (.lst es) → (∀ j d, j ≠ k → fs[j]? = some d → d.pure = true) → D.pureL es = true → Inn (some k) (.tup fs) es
def eachW (i t : Nat) (m : Option Nat) (we : En → (R → Prop) → (Exn → Prop) → Prop) (k : Ko) (env : En) : Prop := match env[i]? with
  | some (.o .fro (.lst ds)) => i ≠ t ∧ t < env.length ∧ ds.length ≤ 100000 ∧ (∀ d ∈ ds, ∃ es, Inn m d es ∧ es.length ≤ 100000) ∧ (∃ c, D.pure c = true ∧ ∀ e, we e (fun r => r = .v .fro c) fun _ => False) ∧
    ∀ ds', ds'.length = ds.length → k.nx (((wreckE env).set t .e).set i (.o .fro (.lst ds')))
  | _ => False

/-- x[a][b] += e, x a list of lists of whole numbers: other whole numbers stand there -/
def likeI (ds ds' : List D) : Prop := ds'.length = ds.length ∧ ∀ (j : Nat) (ns : List Int), ds[j]? = some (.lst (ns.map .int)) → ∃ ns' : List Int, ns'.length = ns.length ∧ ds'[j]? = some (.lst (ns'.map .int))
def augAtW (i : Nat) (wa wb we : En → (R → Prop) → (Exn → Prop) → Prop) (k : Ko) (env : En) : Prop := match env[i]? with
  | some (.o .fro (.lst ds)) => (∀ d ∈ ds, ∃ ns : List Int, d = .lst (ns.map .int)) ∧
    wa env (fun x => match x.d with
      | .int p => (match atI ds p with
        | some (.lst es) => wb env (fun y => match y.d with
          | .int q => (0 ≤ q ∧ q < es.length) ∧ we env (fun z => match z.d with
            | .int _ => ∀ ds', likeI ds ds' → k.nx ((wreckE env).set i (.o .fro (.lst ds')))
            | _ => False) fun _ => False
          | _ => False) fun _ => False
        | _ => False)
      | _ => False) fun _ => False
  | _ => False
def clearW (i : Nat) (k : Ko) (env : En) : Prop := match env[i]? with | some (.v .fro (.lst _)) => k.nx ((wreckE env).set i .e) | _ => False
def wappW (i : Nat) (we : En → (R → Prop) → (Exn → Prop) → Prop) (k : Ko) (env : En) : Prop := match env[i]? with | some (.v .fro (.lst ds)) => we env (fun _ => ds.length < line ∧ k.nx ((wreckE env).set i .e)) (fun x => k.ex x env) | _ => False
def wreckW (w : Wr) (i : Nat) (we : En → (R → Prop) → (Exn → Prop) → Prop) (k : Ko) (env : En) : Prop := match w with
  | .clear => clearW i k env
  | .app => wappW i we k env
  | .each t => eachW i t none we k env
  | .at_ t j => eachW i t (some j) we k env

/-- the field of an error that is made with one -/
def fldC (c : Str) : Str := if c = Str.ofString "NoPrime" then Str.ofString "divisor" else Str.ofString "name"

mutual
def wpS : S → Ko → En → Prop
  | .asg t e, k, env => wpE e env (fun r => tgW t r env k.nx) fun x => k.ex x env
  | .par i j a b, k, env => wpE a env (fun x => wpE b env (fun y => put1 i x.fl x.d env fun e => put1 j y.fl y.d e k.nx) fun x => k.ex x env) fun x => k.ex x env
  | .par3 i j l a b c, k, env => wpE a env (fun x => wpE b env (fun y => wpE c env (fun z => put1 i x.fl x.d env fun e => put1 j y.fl y.d e fun e => put1 l z.fl z.d e k.nx) fun x => k.ex x env) fun x => k.ex x env) fun x => k.ex x env
  | .wreck w i e, k, env => wreckW w i (wpE e) k env
  | .nev, _, _ => False
  | .augAt i a b e, k, env => augAtW i (wpE a) (wpE b) (wpE e) k env
  | .augIx i n e, k, env => ownD env i fun f d0 => wpE n env (fun j => (match d0, keyOf j.d with
      | .dic kvs, some key => (match dget kvs key with
        | some (.int a) => wpE e env (fun y => match y.d with
          | .int b => kvs.length < line ∧ k.nx (env.set i (.o f (.dic (dput kvs key (.int (a + b))))))
          | _ => False) fun x => k.ex x env
        | _ => False)
      | _, _ => False)) fun x => k.ex x env
  | .aug i e, k, env => varW env i fun x => wpE e env (fun y => match x.d, y.d with
      | .int a, .int b => k.nx (env.set i (.v .fro (.int (a + b))))
      | _, _ => False) fun x => k.ex x env
  | .setIx i n e, k, env => ownD env i fun f d0 => wpE e env (fun r => wpE n env (fun j => elW r fun g d => (match d0, j.d with
      | .lst ds, .int z => (match ixN ds.length z with | some m => k.nx (env.set i (.o (f.inf g) (.lst (ds.set m d)))) | none => False)
      | .dic kvs, z => (match keyOf z with | some key => kvs.length < line ∧ k.nx (env.set i (.o (f.inf g) (.dic (dput kvs key d)))) | none => False)
      | _, _ => False)) fun x => k.ex x env) fun x => k.ex x env
  | .app i e, k, env => ownL env i fun f ds => wpE e env (fun r => elW r fun g d => ds.length < line ∧ k.nx (env.set i (.o (f.inf g) (.lst (ds ++ [d]))))) fun x => k.ex x env
  | .appPop i j n, k, env => ownL env i fun f ds => ownL env j fun g es => wpE n env (fun z => match z.d with
      | .int z => i ≠ j ∧ (match ixN es.length z with
        | some m => (match es[m]? with
          | some d => ((-(2 ^ 63) ≤ z ∧ z < 2 ^ 63) ∧ ds.length < line) ∧ k.nx ((env.set j (.o g (.lst (es.eraseIdx m)))).set i (.o (f.inf g) (.lst (ds ++ [d]))))
          | none => False)
        | none => False)
      | _ => False) fun x => k.ex x env
  | .pop j i, k, env => ownL env i fun g es => (match es[es.length - 1]? with
        | some d => put1 j g d (env.set i (.o g (.lst es.dropLast))) k.nx
        | none => False)
  | .rot i n, k, env => ownL env i fun f ds => wpE n env (fun z => match z.d with
      | .int z => (match ixN ds.length z with
        | some m => (match ds[m]? with
          | some d => ((-(2 ^ 63) ≤ z ∧ z < 2 ^ 63) ∧ ds.length < line) ∧ k.nx (env.set i (.o f (.lst (ds.eraseIdx m ++ [d]))))
          | none => False)
        | none => False)
      | _ => False) fun x => k.ex x env
  | .popAt i n, k, env => ownL env i fun f ds => wpE n env (fun z => match z.d with
      | .int z => (match ixN ds.length z with
        | some m => (-(2 ^ 63) ≤ z ∧ z < 2 ^ 63) ∧ k.nx (env.set i (.o f (.lst (ds.eraseIdx m))))
        | none => False)
      | _ => False) fun x => k.ex x env
  | .popd i, k, env => ownL env i fun f ds => ds ≠ [] ∧ k.nx (env.set i (.o f (.lst ds.dropLast)))
  | .rev i, k, env => ownL env i fun f ds => k.nx (env.set i (.o f (.lst ds.reverse)))
  | .clear i, k, env => ownL env i fun f _ => k.nx (env.set i (.o f (.lst [])))
  | .ext i e, k, env => ownL env i fun f ds => wpE e env (fun r => (match r.d with
      | .lst es => r.fl ≠ .bor ∧ ds.length + es.length ≤ line ∧ k.nx (env.set i (.o (f.inf r.fl) (.lst (ds ++ es))))
      | _ => False)) fun x => k.ex x env
  | .ins i n e, k, env => ownL env i fun f ds => wpE n env (fun z => wpE e env (fun r => elW r fun g d => (match z.d with
      | .int z => (0 ≤ z ∧ z < 2 ^ 63 ∧ ds.length < line) ∧ k.nx (env.set i (.o (f.inf g) (.lst (ds.take z.toNat ++ [d] ++ ds.drop z.toNat))))
      | _ => False)) fun x => k.ex x env) fun x => k.ex x env
  | .expr e, k, env => wpE e env (fun _ => k.nx env) fun x => k.ex x env
  | .ret e, k, env => wpE e env (fun r => retW r k.rt) fun x => k.ex x env
  | .retv i, k, env => retvW env i k.rt
  | .iff c a b, k, env => wpT c env (fun d => if d = true then wpSs a k env else wpSs b k env) fun x => k.ex x env
  | .whl c b, k, env => whlW (wpT c) (wpSs b) k env
  | .for t it b, k, env => wpIt it env (fun f ds => f ≠ .bor ∧ forL t (wpSs b) k f ds env) fun x => k.ex x env
  | .brk, k, env => k.bk env
  | .cont, k, env => k.ct env
  | .pass, k, env => k.nx env
  | .raise c .none, k, env => k.ex ⟨c, Str.empty, []⟩ env
  | .raise c (.some a), k, env => wpE a env (fun r => match r.d with
      | .int i => k.ex ⟨c, fldC c, [.int i]⟩ env
      | .str s => k.ex ⟨c, fldC c, [.str s]⟩ env
      | _ => False) fun x => k.ex x env
  | .tri b hs, k, env => wpSs b { k with ex := wpHs hs k } env
  | .frz i, k, env => k.nx (frzE env i)
def wpSs : Ss → Ko → En → Prop
  | .nil, k, env => k.nx env
  | .cons s ss, k, env => wpS s { k with nx := wpSs ss k } env
def wpHs : Hs → Ko → Exn → En → Prop
  | .nil, k, x, env => k.ex x env
  | .cons c i b hs, k, x, env => if subCls x.cls c = true then
      (match i with
        | none => wpSs b { k with ex := fun _ _ => False, nx := fun e => k.nx (dropX e), bk := fun e => k.bk (dropX e), ct := fun e => k.ct (dropX e) } env
        | some j => wpSs b { k with ex := fun _ _ => False, nx := fun e => k.nx ((dropX e).set j .e), bk := fun e => k.bk ((dropX e).set j .e), ct := fun e => k.ct ((dropX e).set j .e) } (env.set j (.x x.cls x.fld x.arg)))
    else wpHs hs k x env
end

structure F where
  ps : Nat
  n : Nat
  body : Ss
def argSl (d : D) : Sl := if d.pure = true then .v .fro d else .v .arg d
def F.run (f : F) (args : List D) (Q : Out → Prop) : Prop :=
  args.length = f.ps ∧ wpSs f.body { nx := fun _ => Q (.ret (.v .fro .non)), rt := fun r => Q (.ret r), bk := fun _ => False, ct := fun _ => False, ex := fun x _ => Q (.exn x) } (args.map argSl ++ List.replicate (f.n - f.ps) .e)
@[simp] theorem wpC_none (env : En) (Q : Bool → Prop) : wpC (Eo.none) env Q = (Q true) := rfl
@[simp] theorem wpC_some (e : E) (env : En) (Q : Bool → Prop) : wpC (Eo.some e) env Q = (wpT e env Q fun _ => False) := rfl
@[simp] theorem wpE_var (i : Nat) (env : En) (Q : R → Prop) (X : Exn → Prop) : wpE (E.var i) env Q X = (varW env i Q) := rfl
@[simp] theorem wpE_int (i : Int) (env : En) (Q : R → Prop) (X : Exn → Prop) : wpE (E.int i) env Q X = (Q (.v .fro (.int i))) := rfl
@[simp] theorem wpE_bl (b : Bool) (env : En) (Q : R → Prop) (X : Exn → Prop) : wpE (E.bl b) env Q X = (Q (.v .fro (.bl b))) := rfl
@[simp] theorem wpE_non (env : En) (Q : R → Prop) (X : Exn → Prop) : wpE (E.non) env Q X = (Q (.v .fro .non)) := rfl
@[simp] theorem wpE_str (s : Str) (env : En) (Q : R → Prop) (X : Exn → Prop) : wpE (E.str s) env Q X = (Q (.v .fro (.str s))) := rfl
@[simp] theorem wpE_glob (u0 : Str) (d : D) (env : En) (Q : R → Prop) (X : Exn → Prop) : wpE (E.glob u0 d) env Q X = (Q (.v .fro d)) := rfl
@[simp] theorem wpE_bin (op : Bop) (a : E) (b : E) (env : En) (Q : R → Prop) (X : Exn → Prop) : wpE (E.bin op a b) env Q X = (wpE a env (fun x => wpE b env (fun y => binW op x y Q) X) X) := rfl
@[simp] theorem wpE_neg (a : E) (env : En) (Q : R → Prop) (X : Exn → Prop) : wpE (E.neg a) env Q X = (wpE a env (fun x => match x.d with | .int i => Q (.v .fro (.int (-i))) | _ => False) X) := rfl
@[simp] theorem wpE_notE (a : E) (env : En) (Q : R → Prop) (X : Exn → Prop) : wpE (E.notE a) env Q X = (wpE a env (fun x => truthW x fun b => Q (.v .fro (.bl (!b)))) X) := rfl
@[simp] theorem wpE_andE (es : Es) (env : En) (Q : R → Prop) (X : Exn → Prop) : wpE (E.andE es) env Q X = (wpAE es env Q X) := rfl
@[simp] theorem wpE_orE (es : Es) (env : En) (Q : R → Prop) (X : Exn → Prop) : wpE (E.orE es) env Q X = (wpOE es env Q X) := rfl
@[simp] theorem wpE_cmp (op : Cop) (a : E) (b : E) (env : En) (Q : R → Prop) (X : Exn → Prop) : wpE (E.cmp op a b) env Q X = (wpE a env (fun x => wpE b env (fun y => cmpW op x y fun c => Q (.v .fro (.bl c))) X) X) := rfl
@[simp] theorem wpE_chain (o : Cop) (p : Cop) (a : E) (b : E) (c : E) (env : En) (Q : R → Prop) (X : Exn → Prop) : wpE (E.chain o p a b c) env Q X = (wpE a env (fun x => wpE b env (fun y => cmpW o x y fun k => if k = true then wpE c env (fun z => cmpW p y z fun c => Q (.v .fro (.bl c))) X else Q (.v .fro (.bl false))) X) X) := rfl
@[simp] theorem wpE_ite (c : E) (a : E) (b : E) (env : En) (Q : R → Prop) (X : Exn → Prop) : wpE (E.ite c a b) env Q X = (wpT c env (fun k => if k = true then wpE a env Q X else wpE b env Q X) X) := rfl
@[simp] theorem wpE_tup (es : Es) (env : En) (Q : R → Prop) (X : Exn → Prop) : wpE (E.tup es) env Q X = (wpEs es env (fun rs => rs.length ≤ line ∧ Q (.v (flAll rs) (.tup (rs.map R.d)))) X) := rfl
@[simp] theorem wpE_lst (es : Es) (env : En) (Q : R → Prop) (X : Exn → Prop) : wpE (E.lst es) env Q X = (wpEs es env (fun rs => rs.length ≤ line ∧ Q (.n (flAll rs) (.lst (rs.map R.d)))) X) := rfl
@[simp] theorem wpE_dic0 (env : En) (Q : R → Prop) (X : Exn → Prop) : wpE (E.dic0) env Q X = (Q (.n .fro (.dic []))) := rfl
@[simp] theorem wpE_dicC (kvs : KvL) (env : En) (Q : R → Prop) (X : Exn → Prop) : wpE (E.dicC kvs) env Q X = (((kvs.map (·.1)).Nodup ∧ kvs.length ≤ 15) ∧ Q (.n .fro (.dic (kvs.map fun kv => (.inr kv.1, .int kv.2))))) := rfl
@[simp] theorem wpE_idx (a : E) (i : E) (env : En) (Q : R → Prop) (X : Exn → Prop) : wpE (E.idx a i) env Q X = (wpE a env (fun x => wpE i env (fun y => idxW x y Q) X) X) := rfl
@[simp] theorem wpE_sli (a : E) (lo : Eo) (hi : Eo) (env : En) (Q : R → Prop) (X : Exn → Prop) : wpE (E.sli a lo hi) env Q X = (wpE a env (fun x => wpEo lo env (fun l => optI l ≠ none ∧ wpEo hi env (fun h => sliW x l h Q) X) X) X) := rfl
@[simp] theorem wpE_revs (a : E) (env : En) (Q : R → Prop) (X : Exn → Prop) : wpE (E.revs a) env Q X = (wpE a env (fun x => revW x Q) X) := rfl
@[simp] theorem wpE_call (u0 : Str) (sp : FSpec) (es : Es) (env : En) (Q : R → Prop) (X : Exn → Prop) : wpE (E.call u0 sp es) env Q X = (wpEs es env (fun rs => callW sp rs Q X) X) := rfl
@[simp] theorem wpE_bi (f : Bi) (es : Es) (env : En) (Q : R → Prop) (X : Exn → Prop) : wpE (E.bi f es) env Q X = (wpEs es env (fun rs => biW f rs Q) X) := rfl
@[simp] theorem wpE_isi (a : E) (t : String) (env : En) (Q : R → Prop) (X : Exn → Prop) : wpE (E.isi a t) env Q X = (wpE a env (fun x => isiW x t fun b => Q (.v .fro (.bl b))) X) := rfl
@[simp] theorem wpE_isx (i : Nat) (c : Str) (env : En) (Q : R → Prop) (X : Exn → Prop) : wpE (E.isx i c) env Q X = (isxW env i [c] fun b => Q (.v .fro (.bl b))) := rfl
@[simp] theorem wpE_isxs (i : Nat) (cs : List Str) (env : En) (Q : R → Prop) (X : Exn → Prop) : wpE (E.isxs i cs) env Q X = (isxW env i cs fun b => Q (.v .fro (.bl b))) := rfl
@[simp] theorem wpE_comp (t : Tg) (it : It) (c : Eo) (e : E) (env : En) (Q : R → Prop) (X : Exn → Prop) : wpE (E.comp t it c e) env Q X = (wpItC it env (fun f ds => (ds.length ≤ line ∧ notOwn env (tgS t)) ∧
      compL t (fun e' Q' => wpC c e' Q') (fun e' Q' => wpE e e' Q' fun _ => False) f (wipeE env (tgS t)) ds fun g ys => Q (.n g (.lst ys))) X) := rfl
@[simp] theorem wpE_lset (a : E) (env : En) (Q : R → Prop) (X : Exn → Prop) : wpE (E.lset a) env Q X = (wpE a env (fun x => match x.d with
    | .lst ds => (match intsOf ds with | some ns => (ns.length < 64 ∨ ns.Nodup ∧ ns.length ≤ 4000) ∧ Q (.v .fro (.int (metL ns).length)) | none => False)
    | _ => False) X) := rfl
@[simp] theorem wpE_rgv (t : Bool) (a : E) (env : En) (Q : R → Prop) (X : Exn → Prop) : wpE (E.rgv t a) env Q X = (wpE a env (fun x => match x.d with | .int n => (ib n ∧ n ≤ line) ∧ Q (rgR t 0 n) | _ => False) X) := rfl
@[simp] theorem wpE_rgv2 (t : Bool) (a : E) (b : E) (env : En) (Q : R → Prop) (X : Exn → Prop) : wpE (E.rgv2 t a b) env Q X = (wpE a env (fun x => wpE b env (fun y => match x.d, y.d with | .int m, .int n => (ib m ∧ ib n ∧ n - m ≤ line) ∧ Q (rgR t m n) | _, _ => False) X) X) := rfl
@[simp] theorem wpE_meth (m : Me) (a : E) (es : Es) (env : En) (Q : R → Prop) (X : Exn → Prop) : wpE (E.meth m a es) env Q X = (wpE a env (fun x => meT m x.d = true ∧ wpEs es env (fun rs => meW m x rs Q) X) X) := rfl
@[simp] theorem wpE_fld (i : Nat) (f : Str) (env : En) (Q : R → Prop) (X : Exn → Prop) : wpE (E.fld i f) env Q X = (fldW env i f Q) := rfl
@[simp] theorem wpT_notE (a : E) (env : En) (Q : Bool → Prop) (X : Exn → Prop) : wpT (E.notE a) env Q X = (wpT a env (fun b => Q (!b)) X) := rfl
@[simp] theorem wpT_andE (es : Es) (env : En) (Q : Bool → Prop) (X : Exn → Prop) : wpT (E.andE es) env Q X = (wpAT es env Q X) := rfl
@[simp] theorem wpT_orE (es : Es) (env : En) (Q : Bool → Prop) (X : Exn → Prop) : wpT (E.orE es) env Q X = (wpOT es env Q X) := rfl
@[simp] theorem wpT_cmp (op : Cop) (a : E) (b : E) (env : En) (Q : Bool → Prop) (X : Exn → Prop) : wpT (E.cmp op a b) env Q X = (wpE a env (fun x => wpE b env (fun y => cmpW op x y Q) X) X) := rfl
@[simp] theorem wpT_chain (o : Cop) (p : Cop) (a : E) (b : E) (c : E) (env : En) (Q : Bool → Prop) (X : Exn → Prop) : wpT (E.chain o p a b c) env Q X = (wpE a env (fun x => wpE b env (fun y => cmpW o x y fun k => if k = true then wpE c env (fun z => cmpW p y z Q) X else Q false) X) X) := rfl
@[simp] theorem wpT_var (i : Nat) (env : En) (Q : Bool → Prop) (X : Exn → Prop) : wpT (E.var i) env Q X = (varW env i fun x => truthW x Q) := rfl
@[simp] theorem wpT_bl (b : Bool) (env : En) (Q : Bool → Prop) (X : Exn → Prop) : wpT (E.bl b) env Q X = (Q b) := rfl
@[simp] theorem wpT_call (f : Str) (sp : FSpec) (es : Es) (env : En) (Q : Bool → Prop) (X : Exn → Prop) : wpT (E.call f sp es) env Q X = (wpEs es env (fun rs => callW sp rs (fun x => truthW x Q) X) X) := rfl
@[simp] theorem wpT_bi (f : Bi) (es : Es) (env : En) (Q : Bool → Prop) (X : Exn → Prop) : wpT (E.bi f es) env Q X = (wpEs es env (fun rs => biW f rs fun x => truthW x Q) X) := rfl
@[simp] theorem wpT_isi (a : E) (t : String) (env : En) (Q : Bool → Prop) (X : Exn → Prop) : wpT (E.isi a t) env Q X = (wpE a env (fun x => isiW x t Q) X) := rfl
@[simp] theorem wpT_isx (i : Nat) (c : Str) (env : En) (Q : Bool → Prop) (X : Exn → Prop) : wpT (E.isx i c) env Q X = (isxW env i [c] Q) := rfl
@[simp] theorem wpT_isxs (i : Nat) (cs : List Str) (env : En) (Q : Bool → Prop) (X : Exn → Prop) : wpT (E.isxs i cs) env Q X = (isxW env i cs Q) := rfl
@[simp] theorem wpT_idx (a : E) (i : E) (env : En) (Q : Bool → Prop) (X : Exn → Prop) : wpT (E.idx a i) env Q X = (wpE a env (fun x => wpE i env (fun y => idxW x y fun z => truthW z Q) X) X) := rfl
@[simp] theorem wpEs_nil (env : En) (Q : List R → Prop) (X : Exn → Prop) : wpEs (Es.nil) env Q X = (Q []) := rfl
@[simp] theorem wpEs_cons (e : E) (es : Es) (env : En) (Q : List R → Prop) (X : Exn → Prop) : wpEs (Es.cons e es) env Q X = (wpE e env (fun r => wpEs es env (fun rs => Q (r :: rs)) X) X) := rfl
@[simp] theorem wpEo_none (env : En) (Q : Option R → Prop) (X : Exn → Prop) : wpEo (Eo.none) env Q X = (Q none) := rfl
@[simp] theorem wpEo_some (e : E) (env : En) (Q : Option R → Prop) (X : Exn → Prop) : wpEo (Eo.some e) env Q X = (wpE e env (fun r => Q (some r)) X) := rfl
@[simp] theorem wpIt_seq (e : E) (env : En) (Q : Fl → List D → Prop) (X : Exn → Prop) : wpIt (It.seq e) env Q X = (wpE e env (fun x => match seqOf x.d with | some ds => Q x.fl ds | none => False) X) := rfl
@[simp] theorem wpIt_range1 (a : E) (env : En) (Q : Fl → List D → Prop) (X : Exn → Prop) : wpIt (It.range1 a) env Q X = (wpE a env (fun x => match x.d with | .int n => ib n ∧ Q .fro (rangeL 0 n) | _ => False) X) := rfl
@[simp] theorem wpIt_range2 (a : E) (b : E) (env : En) (Q : Fl → List D → Prop) (X : Exn → Prop) : wpIt (It.range2 a b) env Q X = (wpE a env (fun x => wpE b env (fun y => match x.d, y.d with | .int m, .int n => ib m ∧ ib n ∧ Q .fro (rangeL m n) | _, _ => False) X) X) := rfl
@[simp] theorem wpIt_rangeW (a : E) (b : E) (env : En) (Q : Fl → List D → Prop) (X : Exn → Prop) : wpIt (It.rangeW a b) env Q X = (wpE a env (fun x => wpE b env (fun y => match x.d, y.d with | .int m, .int n => Q .fro (rangeL m n) | _, _ => False) X) X) := rfl
@[simp] theorem wpIt_zip (a : E) (b : E) (env : En) (Q : Fl → List D → Prop) (X : Exn → Prop) : wpIt (It.zip a b) env Q X = (wpE a env (fun x => wpE b env (fun y => match x.d, y.d with
    | .lst ds, .lst es => Q (x.fl.inf y.fl) (List.zipWith (fun a b => .tup [a, b]) ds es)
    | .tup ds, .tup es => Q (x.fl.inf y.fl) (List.zipWith (fun a b => .tup [a, b]) ds es)
    | _, _ => False) X) X) := rfl
@[simp] theorem wpIt_enum (a : E) (env : En) (Q : Fl → List D → Prop) (X : Exn → Prop) : wpIt (It.enum a) env Q X = (wpE a env (fun x => match x.d with
    | .lst ds => Q x.fl (ds.mapIdx fun i d => .tup [.int i, d])
    | _ => False) X) := rfl
@[simp] theorem wpIt_rev (a : E) (env : En) (Q : Fl → List D → Prop) (X : Exn → Prop) : wpIt (It.rev a) env Q X = (wpE a env (fun x => match x.d with
    | .lst ds => Q x.fl ds.reverse
    | _ => False) X) := rfl
@[simp] theorem wpItC_seq (e : E) (env : En) (Q : Fl → List D → Prop) (X : Exn → Prop) : wpItC (It.seq e) env Q X = (wpE e env (fun x => match seqOf x.d with | some ds => Q x.efl ds | none => False) X) := rfl
@[simp] theorem wpItC_range1 (a : E) (env : En) (Q : Fl → List D → Prop) (X : Exn → Prop) : wpItC (It.range1 a) env Q X = (wpE a env (fun x => match x.d with | .int n => ib n ∧ Q .fro (rangeL 0 n) | _ => False) X) := rfl
@[simp] theorem wpItC_range2 (a : E) (b : E) (env : En) (Q : Fl → List D → Prop) (X : Exn → Prop) : wpItC (It.range2 a b) env Q X = (wpE a env (fun x => wpE b env (fun y => match x.d, y.d with | .int m, .int n => ib m ∧ ib n ∧ Q .fro (rangeL m n) | _, _ => False) X) X) := rfl
@[simp] theorem wpItC_rangeW (a : E) (b : E) (env : En) (Q : Fl → List D → Prop) (X : Exn → Prop) : wpItC (It.rangeW a b) env Q X = (wpE a env (fun x => wpE b env (fun y => match x.d, y.d with | .int m, .int n => Q .fro (rangeL m n) | _, _ => False) X) X) := rfl
@[simp] theorem wpItC_zip (a : E) (b : E) (env : En) (Q : Fl → List D → Prop) (X : Exn → Prop) : wpItC (It.zip a b) env Q X = (wpE a env (fun x => wpE b env (fun y => match x.d, y.d with
    | .lst ds, .lst es => Q (x.efl.inf y.efl) (List.zipWith (fun a b => .tup [a, b]) ds es)
    | .tup ds, .tup es => Q (x.efl.inf y.efl) (List.zipWith (fun a b => .tup [a, b]) ds es)
    | _, _ => False) X) X) := rfl
@[simp] theorem wpItC_enum (a : E) (env : En) (Q : Fl → List D → Prop) (X : Exn → Prop) : wpItC (It.enum a) env Q X = (wpE a env (fun x => match x.d with
    | .lst ds => Q x.efl (ds.mapIdx fun i d => .tup [.int i, d])
    | _ => False) X) := rfl
@[simp] theorem wpItC_rev (a : E) (env : En) (Q : Fl → List D → Prop) (X : Exn → Prop) : wpItC (It.rev a) env Q X = (wpE a env (fun x => match x.d with
    | .lst ds => Q x.efl ds.reverse
    | _ => False) X) := rfl
@[simp] theorem wpS_asg (t : Tg) (e : E) (k : Ko) (env : En) : wpS (S.asg t e) k env = (wpE e env (fun r => tgW t r env k.nx) fun x => k.ex x env) := rfl
@[simp] theorem wpS_par (i : Nat) (j : Nat) (a : E) (b : E) (k : Ko) (env : En) : wpS (S.par i j a b) k env = (wpE a env (fun x => wpE b env (fun y => put1 i x.fl x.d env fun e => put1 j y.fl y.d e k.nx) fun x => k.ex x env) fun x => k.ex x env) := rfl
@[simp] theorem wpS_par3 (i : Nat) (j : Nat) (l : Nat) (a : E) (b : E) (c : E) (k : Ko) (env : En) : wpS (S.par3 i j l a b c) k env = (wpE a env (fun x => wpE b env (fun y => wpE c env (fun z => put1 i x.fl x.d env fun e => put1 j y.fl y.d e fun e => put1 l z.fl z.d e k.nx) fun x => k.ex x env) fun x => k.ex x env) fun x => k.ex x env) := rfl
@[simp] theorem wpS_wreck (w : Wr) (i : Nat) (e : E) (k : Ko) (env : En) : wpS (S.wreck w i e) k env = (wreckW w i (wpE e) k env) := rfl
@[simp] theorem wpS_nev (k : Ko) (env : En) : wpS (S.nev) k env = (False) := rfl
@[simp] theorem wpS_augAt (i : Nat) (a : E) (b : E) (e : E) (k : Ko) (env : En) : wpS (S.augAt i a b e) k env = (augAtW i (wpE a) (wpE b) (wpE e) k env) := rfl
@[simp] theorem wpS_augIx (i : Nat) (n : E) (e : E) (k : Ko) (env : En) : wpS (S.augIx i n e) k env = (ownD env i fun f d0 => wpE n env (fun j => (match d0, keyOf j.d with
      | .dic kvs, some key => (match dget kvs key with
        | some (.int a) => wpE e env (fun y => match y.d with
          | .int b => kvs.length < line ∧ k.nx (env.set i (.o f (.dic (dput kvs key (.int (a + b))))))
          | _ => False) fun x => k.ex x env
        | _ => False)
      | _, _ => False)) fun x => k.ex x env) := rfl
@[simp] theorem wpS_aug (i : Nat) (e : E) (k : Ko) (env : En) : wpS (S.aug i e) k env = (varW env i fun x => wpE e env (fun y => match x.d, y.d with
      | .int a, .int b => k.nx (env.set i (.v .fro (.int (a + b))))
      | _, _ => False) fun x => k.ex x env) := rfl
@[simp] theorem wpS_setIx (i : Nat) (n : E) (e : E) (k : Ko) (env : En) : wpS (S.setIx i n e) k env = (ownD env i fun f d0 => wpE e env (fun r => wpE n env (fun j => elW r fun g d => (match d0, j.d with
      | .lst ds, .int z => (match ixN ds.length z with | some m => k.nx (env.set i (.o (f.inf g) (.lst (ds.set m d)))) | none => False)
      | .dic kvs, z => (match keyOf z with | some key => kvs.length < line ∧ k.nx (env.set i (.o (f.inf g) (.dic (dput kvs key d)))) | none => False)
      | _, _ => False)) fun x => k.ex x env) fun x => k.ex x env) := rfl
@[simp] theorem wpS_app (i : Nat) (e : E) (k : Ko) (env : En) : wpS (S.app i e) k env = (ownL env i fun f ds => wpE e env (fun r => elW r fun g d => ds.length < line ∧ k.nx (env.set i (.o (f.inf g) (.lst (ds ++ [d]))))) fun x => k.ex x env) := rfl
@[simp] theorem wpS_appPop (i : Nat) (j : Nat) (n : E) (k : Ko) (env : En) : wpS (S.appPop i j n) k env = (ownL env i fun f ds => ownL env j fun g es => wpE n env (fun z => match z.d with
      | .int z => i ≠ j ∧ (match ixN es.length z with
        | some m => (match es[m]? with
          | some d => ((-(2 ^ 63) ≤ z ∧ z < 2 ^ 63) ∧ ds.length < line) ∧ k.nx ((env.set j (.o g (.lst (es.eraseIdx m)))).set i (.o (f.inf g) (.lst (ds ++ [d]))))
          | none => False)
        | none => False)
      | _ => False) fun x => k.ex x env) := rfl
@[simp] theorem wpS_pop (j : Nat) (i : Nat) (k : Ko) (env : En) : wpS (S.pop j i) k env = (ownL env i fun g es => (match es[es.length - 1]? with
        | some d => put1 j g d (env.set i (.o g (.lst es.dropLast))) k.nx
        | none => False)) := rfl
@[simp] theorem wpS_rot (i : Nat) (n : E) (k : Ko) (env : En) : wpS (S.rot i n) k env = (ownL env i fun f ds => wpE n env (fun z => match z.d with
      | .int z => (match ixN ds.length z with
        | some m => (match ds[m]? with
          | some d => ((-(2 ^ 63) ≤ z ∧ z < 2 ^ 63) ∧ ds.length < line) ∧ k.nx (env.set i (.o f (.lst (ds.eraseIdx m ++ [d]))))
          | none => False)
        | none => False)
      | _ => False) fun x => k.ex x env) := rfl
@[simp] theorem wpS_popAt (i : Nat) (n : E) (k : Ko) (env : En) : wpS (S.popAt i n) k env = (ownL env i fun f ds => wpE n env (fun z => match z.d with
      | .int z => (match ixN ds.length z with
        | some m => (-(2 ^ 63) ≤ z ∧ z < 2 ^ 63) ∧ k.nx (env.set i (.o f (.lst (ds.eraseIdx m))))
        | none => False)
      | _ => False) fun x => k.ex x env) := rfl
@[simp] theorem wpS_popd (i : Nat) (k : Ko) (env : En) : wpS (S.popd i) k env = (ownL env i fun f ds => ds ≠ [] ∧ k.nx (env.set i (.o f (.lst ds.dropLast)))) := rfl
@[simp] theorem wpS_rev (i : Nat) (k : Ko) (env : En) : wpS (S.rev i) k env = (ownL env i fun f ds => k.nx (env.set i (.o f (.lst ds.reverse)))) := rfl
@[simp] theorem wpS_clear (i : Nat) (k : Ko) (env : En) : wpS (S.clear i) k env = (ownL env i fun f _ => k.nx (env.set i (.o f (.lst [])))) := rfl
@[simp] theorem wpS_ext (i : Nat) (e : E) (k : Ko) (env : En) : wpS (S.ext i e) k env = (ownL env i fun f ds => wpE e env (fun r => (match r.d with
      | .lst es => r.fl ≠ .bor ∧ ds.length + es.length ≤ line ∧ k.nx (env.set i (.o (f.inf r.fl) (.lst (ds ++ es))))
      | _ => False)) fun x => k.ex x env) := rfl
@[simp] theorem wpS_ins (i : Nat) (n : E) (e : E) (k : Ko) (env : En) : wpS (S.ins i n e) k env = (ownL env i fun f ds => wpE n env (fun z => wpE e env (fun r => elW r fun g d => (match z.d with
      | .int z => (0 ≤ z ∧ z < 2 ^ 63 ∧ ds.length < line) ∧ k.nx (env.set i (.o (f.inf g) (.lst (ds.take z.toNat ++ [d] ++ ds.drop z.toNat))))
      | _ => False)) fun x => k.ex x env) fun x => k.ex x env) := rfl
@[simp] theorem wpS_expr (e : E) (k : Ko) (env : En) : wpS (S.expr e) k env = (wpE e env (fun _ => k.nx env) fun x => k.ex x env) := rfl
@[simp] theorem wpS_ret (e : E) (k : Ko) (env : En) : wpS (S.ret e) k env = (wpE e env (fun r => retW r k.rt) fun x => k.ex x env) := rfl
@[simp] theorem wpS_retv (i : Nat) (k : Ko) (env : En) : wpS (S.retv i) k env = (retvW env i k.rt) := rfl
@[simp] theorem wpS_iff (c : E) (a : Ss) (b : Ss) (k : Ko) (env : En) : wpS (S.iff c a b) k env = (wpT c env (fun d => if d = true then wpSs a k env else wpSs b k env) fun x => k.ex x env) := rfl
@[simp] theorem wpS_whl (c : E) (b : Ss) (k : Ko) (env : En) : wpS (S.whl c b) k env = (whlW (wpT c) (wpSs b) k env) := rfl
@[simp] theorem wpS_for (t : Tg) (it : It) (b : Ss) (k : Ko) (env : En) : wpS (S.for t it b) k env = (wpIt it env (fun f ds => f ≠ .bor ∧ forL t (wpSs b) k f ds env) fun x => k.ex x env) := rfl
@[simp] theorem wpS_brk (k : Ko) (env : En) : wpS (S.brk) k env = (k.bk env) := rfl
@[simp] theorem wpS_cont (k : Ko) (env : En) : wpS (S.cont) k env = (k.ct env) := rfl
@[simp] theorem wpS_pass (k : Ko) (env : En) : wpS (S.pass) k env = (k.nx env) := rfl
@[simp] theorem wpS_raise (c : Str) (k : Ko) (env : En) : wpS (.raise c .none : S) k env = (k.ex ⟨c, Str.empty, []⟩ env) := rfl
@[simp] theorem wpS_raise1 (c : Str) (a : E) (k : Ko) (env : En) : wpS (.raise c (.some a) : S) k env = (wpE a env (fun r => match r.d with
      | .int i => k.ex ⟨c, fldC c, [.int i]⟩ env
      | .str s => k.ex ⟨c, fldC c, [.str s]⟩ env
      | _ => False) fun x => k.ex x env) := rfl
@[simp] theorem wpS_tri (b : Ss) (hs : Hs) (k : Ko) (env : En) : wpS (S.tri b hs) k env = (wpSs b { k with ex := wpHs hs k } env) := rfl
@[simp] theorem wpS_frz (i : Nat) (k : Ko) (env : En) : wpS (S.frz i) k env = (k.nx (frzE env i)) := rfl
@[simp] theorem wpSs_nil (k : Ko) (env : En) : wpSs (Ss.nil) k env = (k.nx env) := rfl
@[simp] theorem wpSs_cons (s : S) (ss : Ss) (k : Ko) (env : En) : wpSs (Ss.cons s ss) k env = (wpS s { k with nx := wpSs ss k } env) := rfl
@[simp] theorem wpHs_nil (k : Ko) (x : Exn) (env : En) : wpHs (Hs.nil) k x env = (k.ex x env) := rfl
@[simp] theorem wpHs_cons (c : Str) (i : Option Nat) (b : Ss) (hs : Hs) (k : Ko) (x : Exn) (env : En) : wpHs (Hs.cons c i b hs) k x env = (if subCls x.cls c = true then
      (match i with
        | none => wpSs b { k with ex := fun _ _ => False, nx := fun e => k.nx (dropX e), bk := fun e => k.bk (dropX e), ct := fun e => k.ct (dropX e) } env
        | some j => wpSs b { k with ex := fun _ _ => False, nx := fun e => k.nx ((dropX e).set j .e), bk := fun e => k.bk ((dropX e).set j .e), ct := fun e => k.ct ((dropX e).set j .e) } (env.set j (.x x.cls x.fld x.arg)))
    else wpHs hs k x env) := rfl
theorem map_toNat_inj : ∀ {a b : List Char}, a.map Char.toNat = b.map Char.toNat → a = b
  | [], [], _ => rfl
  | [], _ :: _, h => by simp at h
  | _ :: _, [], h => by simp at h
  | x :: a, y :: b, h => by
    simp only [List.map_cons, List.cons.injEq] at h
    rw [map_toNat_inj h.2, Char.toNat_inj.mp h.1]
@[simp] theorem ofStr_inj {a b : String} : Str.ofString a = Str.ofString b ↔ a = b := by
  constructor
  · intro h
    rw [Str.ofString_eq_toList, Str.ofString_eq_toList] at h
    have h2 := congrArg (fun s => s.cps.toList) h
    simp only [] at h2
    exact String.toList_inj.mp (map_toNat_inj h2)
  · rintro rfl; rfl
@[simp] theorem ofStr_beq {a b : String} : (Str.ofString a == Str.ofString b) = (a == b) := by
  rw [Bool.eq_iff_iff]
  simp
@[simp] theorem line_val : line = 16777216 := rfl
section
variable {f g h : Fl} {i j k : Int} {d : D} {ds es : List D} {Q : R → Prop} {QB : Bool → Prop} {b c : Bool}
@[simp] theorem R_d_v : (R.v f d).d = d := rfl
@[simp] theorem R_d_b : (R.b f d).d = d := rfl
@[simp] theorem R_d_n : (R.n f d).d = d := rfl
@[simp] theorem pure_non : D.pure .non = true := rfl
@[simp] theorem pure_bl : D.pure (.bl b) = true := rfl
@[simp] theorem pure_int : D.pure (.int i) = true := rfl
@[simp] theorem pure_str {x : Str} : D.pure (.str x) = true := rfl
@[simp] theorem pure_lst : D.pure (.lst ds) = false := rfl
@[simp] theorem pure_dic {kvs : List (Key × D)} : D.pure (.dic kvs) = false := rfl
@[simp] theorem pure_tup : D.pure (.tup ds) = D.pureL ds := rfl
@[simp] theorem pure_scr {ns : List Int} : D.pure (.scr ns) = true := rfl
@[simp] theorem pureL_nil : D.pureL [] = true := rfl
@[simp] theorem pureL_cons : D.pureL (d :: ds) = (D.pure d && D.pureL ds) := rfl
@[simp] theorem pureL_ints (ns : List Int) : D.pureL (ns.map .int) = true := by
  induction ns with
  | nil => rfl
  | cons n r ih => simpa using ih
@[simp] theorem pureL_app (xs ys : List D) : D.pureL (xs ++ ys) = (D.pureL xs && D.pureL ys) := by
  induction xs with
  | nil => rfl
  | cons n r ih => simp [ih, Bool.and_assoc]
@[simp] theorem fl_v : (R.v f d).fl = if d.pure then .fro else f := rfl
@[simp] theorem fl_b : (R.b f d).fl = .bor := rfl
@[simp] theorem efl_v : (R.v f d).efl = if d.pure then .fro else f := rfl
@[simp] theorem efl_n : (R.n f d).efl = f := rfl
@[simp] theorem efl_b : (R.b f d).efl = f := rfl
@[simp] theorem slW_b {QS : Sl → Prop} : slW (.b f d) QS = False := rfl
@[simp] theorem retW_b : retW (.b f d) Q = False := rfl
@[simp] theorem fl_n : (R.n f d).fl = f := rfl
@[simp] theorem flAll_nil : flAll [] = .fro := rfl
@[simp] theorem flAll_cons {r : R} {rs : List R} : flAll (r :: rs) = r.fl.inf (flAll rs) := rfl
@[simp] theorem inf_bor : Fl.inf .bor f = .bor := by cases f <;> rfl
@[simp] theorem inf_fro : Fl.inf .fro f = f := by cases f <;> rfl
@[simp] theorem inf_fro' : Fl.inf f .fro = f := by cases f <;> rfl
@[simp] theorem inf_bor' : Fl.inf f .bor = .bor := by cases f <;> rfl
theorem Fl_inf_assoc {a b c : Fl} : (a.inf b).inf c = a.inf (b.inf c) := by cases a <;> cases b <;> cases c <;> rfl
@[simp] theorem inf_self : Fl.inf f f = f := by cases f <;> rfl
@[simp] theorem eqb_int : D.eqb (.int i) (.int j) = decide (i = j) := by simp [D.eqb, Bool.beq_eq_decide_eq]
@[simp] theorem eqb_bl : D.eqb (.bl b) (.bl c) = (b == c) := by simp [D.eqb]
@[simp] theorem eqb_str {x y : Str} : D.eqb (.str x) (.str y) = decide (x = y) := by simp [D.eqb, Bool.beq_eq_decide_eq]
@[simp] theorem eqb_non : D.eqb .non .non = true := by simp [D.eqb]
@[simp] theorem eqb_lst : D.eqb (.lst ds) (.lst es) = D.eqbL ds es := by simp [D.eqb]
@[simp] theorem eqb_tup : D.eqb (.tup ds) (.tup es) = D.eqbL ds es := by simp [D.eqb]
@[simp] theorem eqbL_nil : D.eqbL [] [] = true := by simp [D.eqbL]
@[simp] theorem eqbL_cons {d e : D} : D.eqbL (d :: ds) (e :: es) = (D.eqb d e && D.eqbL ds es) := by simp [D.eqbL]
@[simp] theorem eqbL_nc {d : D} : D.eqbL [] (d :: ds) = false := by simp [D.eqbL]
@[simp] theorem eqbL_cn {d : D} : D.eqbL (d :: ds) [] = false := by simp [D.eqbL]
@[simp] theorem lay_non {n : Nat} : D.lay n .non = true := by simp [D.lay]
@[simp] theorem lay_bl {n : Nat} : D.lay n (.bl b) = true := by simp [D.lay]
@[simp] theorem lay_int {n : Nat} : D.lay n (.int i) = true := by simp [D.lay]
@[simp] theorem lay_str {n : Nat} {x : Str} : D.lay n (.str x) = strOk x := by simp [D.lay]
@[simp] theorem lay_tup {n : Nat} : D.lay (n + 1) (.tup ds) = D.layL n ds := by simp [D.lay]
@[simp] theorem lay_lst {n : Nat} : D.lay (n + 1) (.lst ds) = D.layL n ds := by simp [D.lay]
@[simp] theorem layL_nil {n : Nat} : D.layL n [] = true := by simp [D.layL]
@[simp] theorem layL_cons {n : Nat} : D.layL n (d :: ds) = (D.lay n d && D.layL n ds) := by simp [D.layL]
@[simp] theorem layL_ints {n : Nat} (ns : List Int) : D.layL n (ns.map .int) = true := by
  induction ns with
  | nil => simp
  | cons n r ih => simpa using ih
@[simp] theorem bin_add : binW .add (.v f (.int i)) (.v g (.int j)) Q = Q (.v .fro (.int (i + j))) := rfl
@[simp] theorem bin_sub : binW .sub (.v f (.int i)) (.v g (.int j)) Q = Q (.v .fro (.int (i - j))) := rfl
@[simp] theorem bin_mul : binW .mul (.v f (.int i)) (.v g (.int j)) Q = (mulOk i j ∧ Q (.v .fro (.int (i * j)))) := rfl
@[simp] theorem bin_fdiv : binW .fdiv (.v f (.int i)) (.v g (.int j)) Q = (divOk j ∧ Q (.v .fro (.int (i.fdiv j)))) := rfl
@[simp] theorem bin_mod : binW .mod (.v f (.int i)) (.v g (.int j)) Q = (j ≠ 0 ∧ Q (.v .fro (.int (i.fmod j)))) := rfl
@[simp] theorem bin_pow : binW .pow (.v f (.int i)) (.v g (.int j)) Q = (((0 ≤ j ∧ j ≤ 1000000 ∧ i.natAbs < 2 ^ 64) ∨ (0 ≤ j ∧ j ≤ 1000 ∧ i.natAbs.log2 < 9000)) ∧ Q (.v .fro (.int (i ^ j.toNat)))) := rfl
@[simp] theorem cmp_eq {x y : R} : cmpW .eq x y QB = (cmpOk x.d y.d = true ∧ QB (D.eqb x.d y.d)) := rfl
@[simp] theorem cmp_ne {x y : R} : cmpW .ne x y QB = (cmpOk x.d y.d = true ∧ QB (!D.eqb x.d y.d)) := rfl
@[simp] theorem ok_ii : cmpOk (.int i) (.int j) = true := rfl
@[simp] theorem ok_bb : cmpOk (.bl b) (.bl c) = true := rfl
@[simp] theorem ok_ss {x y : Str} : cmpOk (.str x) (.str y) = true := rfl
@[simp] theorem ok_is {y : Str} : cmpOk (.int i) (.str y) = true := rfl
@[simp] theorem ok_si {x : Str} : cmpOk (.str x) (.int i) = true := rfl
@[simp] theorem ok_bs {y : Str} : cmpOk (.bl b) (.str y) = true := rfl
@[simp] theorem ok_sb {x : Str} : cmpOk (.str x) (.bl b) = true := rfl
@[simp] theorem ok_ni : cmpOk .non (.int i) = true := rfl
@[simp] theorem ok_in : cmpOk (.int i) .non = true := rfl
@[simp] theorem ok_tt {ds es : List D} : cmpOk (.tup ds) (.tup es) = (D.lay 60 (.tup ds) && D.lay 60 (.tup es)) := by simp [cmpOk, D.scal]
@[simp] theorem ok_ll {ds es : List D} : cmpOk (.lst ds) (.lst es) = (D.lay 60 (.lst ds) && D.lay 60 (.lst es)) := by simp [cmpOk, D.scal]
@[simp] theorem cmp_lt : cmpW .lt (.v f (.int i)) (.v g (.int j)) QB = QB (decide (i < j)) := rfl
@[simp] theorem cmp_le : cmpW .le (.v f (.int i)) (.v g (.int j)) QB = QB (decide (i ≤ j)) := rfl
@[simp] theorem cmp_gt : cmpW .gt (.v f (.int i)) (.v g (.int j)) QB = QB (decide (j < i)) := rfl
@[simp] theorem cmp_ge : cmpW .ge (.v f (.int i)) (.v g (.int j)) QB = QB (decide (j ≤ i)) := rfl
@[simp] theorem cmp_isb {f g : Fl} {b c : Bool} : cmpW .is (.v f (.bl b)) (.v g (.bl c)) QB = QB (decide (b = c)) := rfl
@[simp] theorem cmp_isntb {f g : Fl} {b c : Bool} : cmpW .isnt (.v f (.bl b)) (.v g (.bl c)) QB = QB (!decide (b = c)) := rfl
@[simp] theorem addT_vv : binW .add (.v f (.tup ds)) (.v g (.tup es)) Q = (ds.length + es.length ≤ line ∧ Q (.v ((R.v f (.tup ds)).fl.inf (R.v g (.tup es)).fl) (.tup (ds ++ es)))) := rfl
@[simp] theorem seqOf_str {x : Str} : seqOf (.str x) = some (x.cps.toList.map fun c => .str ⟨#[c]⟩) := rfl
@[simp] theorem sli_vt {f : Fl} {lo hi : Option R} : sliW (.v f (.tup ds)) lo hi Q = (match optI lo, optI hi with | some l, some h => Q (.v (R.v f (.tup ds)).fl (.tup (cut ds l h))) | _, _ => False) := rfl
@[simp] theorem sli_vs {f : Fl} {z : Str} {lo hi : Option R} : sliW (.v f (.str z)) lo hi Q = (match optI lo, optI hi with | some l, some h => z.length ≤ line ∧ Q (.v .fro (.str (cutStr z l h))) | _, _ => False) := rfl
@[simp] theorem cmp_is {x : R} : cmpW .is x (.v f .non) QB = QB x.d.isNon := rfl
@[simp] theorem cmp_isnt {x : R} : cmpW .isnt x (.v f .non) QB = QB (!x.d.isNon) := rfl
@[simp] theorem cmp_inl {x : R} : cmpW .isin x (.v f (.lst ds)) QB = (x.d.flat = true ∧ ds.all D.flat = true ∧ QB (ds.any fun y => D.eqb y x.d)) := rfl
@[simp] theorem cmp_inl_b {x : R} : cmpW .isin x (.b f (.lst ds)) QB = (x.d.flat = true ∧ ds.all D.flat = true ∧ QB (ds.any fun y => D.eqb y x.d)) := rfl
@[simp] theorem cmp_inln {x : R} : cmpW .isin x (.n f (.lst ds)) QB = (x.d.flat = true ∧ ds.all D.flat = true ∧ QB (ds.any fun y => D.eqb y x.d)) := rfl
@[simp] theorem cmp_int {x : R} : cmpW .isin x (.v f (.tup ds)) QB = (x.d.flat = true ∧ ds.all D.flat = true ∧ QB (ds.any fun y => D.eqb y x.d)) := rfl
@[simp] theorem cmp_nil {x : R} : cmpW .notin x (.v f (.lst ds)) QB = (x.d.flat = true ∧ ds.all D.flat = true ∧ QB (!ds.any fun y => D.eqb y x.d)) := rfl
@[simp] theorem cmp_nil_b {x : R} : cmpW .notin x (.b f (.lst ds)) QB = (x.d.flat = true ∧ ds.all D.flat = true ∧ QB (!ds.any fun y => D.eqb y x.d)) := rfl
@[simp] theorem cmp_nit {x : R} : cmpW .notin x (.v f (.tup ds)) QB = (x.d.flat = true ∧ ds.all D.flat = true ∧ QB (!ds.any fun y => D.eqb y x.d)) := rfl
@[simp] theorem cmp_ind {kvs : List (Key × D)} : cmpW .isin (.v g (.int i)) (.v f (.dic kvs)) QB = QB (dget kvs (.inl i)).isSome := rfl
@[simp] theorem cmp_ind_b {kvs : List (Key × D)} : cmpW .isin (.v g (.int i)) (.b f (.dic kvs)) QB = QB (dget kvs (.inl i)).isSome := rfl
@[simp] theorem cmp_nid {kvs : List (Key × D)} : cmpW .notin (.v g (.int i)) (.v f (.dic kvs)) QB = QB (!(dget kvs (.inl i)).isSome) := rfl
@[simp] theorem cmp_nid_b {kvs : List (Key × D)} : cmpW .notin (.v g (.int i)) (.b f (.dic kvs)) QB = QB (!(dget kvs (.inl i)).isSome) := rfl
@[simp] theorem isNon_non : D.isNon .non = true := rfl
@[simp] theorem isNon_int : D.isNon (.int i) = false := rfl
@[simp] theorem isNon_bl : D.isNon (.bl b) = false := rfl
@[simp] theorem isNon_tup : D.isNon (.tup ds) = false := rfl
@[simp] theorem isNon_lst : D.isNon (.lst ds) = false := rfl
@[simp] theorem isNon_str {x : Str} : D.isNon (.str x) = false := rfl
@[simp] theorem flat_non : D.flat .non = true := rfl
@[simp] theorem flat_int : D.flat (.int i) = true := rfl
@[simp] theorem flat_bl : D.flat (.bl b) = true := rfl
@[simp] theorem flat_str {x : Str} : D.flat (.str x) = true := rfl
@[simp] theorem truth_bl : truthW (.v f (.bl b)) QB = QB b := rfl
@[simp] theorem truth_int : truthW (.v f (.int i)) QB = QB (i != 0) := rfl
@[simp] theorem truth_non : truthW (.v f .non) QB = QB false := rfl
@[simp] theorem idx_lst : idxW (.v f (.lst ds)) (.v g (.int i)) Q = (match atI ds i with | some d => Q (.v f d) | none => False) := rfl
@[simp] theorem idx_lst_b : idxW (.b f (.lst ds)) (.v g (.int i)) Q = (match atI ds i with | some d => Q (.v f d) | none => False) := rfl
@[simp] theorem idx_lstn : idxW (.n f (.lst ds)) (.v g (.int i)) Q = (match atI ds i with | some d => Q (.v f d) | none => False) := rfl
@[simp] theorem idx_tup : idxW (.v f (.tup ds)) (.v g (.int i)) Q = (match atI ds i with | some d => Q (.v (if D.pureL ds then .fro else f) d) | none => False) := rfl
@[simp] theorem idx_scr {ns : List Int} : idxW (.v f (.scr ns)) (.v g (.int i)) Q = (match atI ns i with | some n => Q (.v .fro (.int n)) | none => False) := rfl
@[simp] theorem abs_int : biW .abs [.v f (.int i)] Q = Q (.v .fro (.int (if i < 0 then -i else i))) := rfl
@[simp] theorem len_lst : biW .len [.v f (.lst ds)] Q = Q (.v .fro (.int ds.length)) := rfl
@[simp] theorem len_lst_b : biW .len [.b f (.lst ds)] Q = Q (.v .fro (.int ds.length)) := rfl
@[simp] theorem len_lstn : biW .len [.n f (.lst ds)] Q = Q (.v .fro (.int ds.length)) := rfl
@[simp] theorem len_tup : biW .len [.v f (.tup ds)] Q = Q (.v .fro (.int ds.length)) := rfl
@[simp] theorem len_scr {ns : List Int} : biW .len [.v f (.scr ns)] Q = Q (.v .fro (.int ns.length)) := rfl
@[simp] theorem max_2 : biW .max [.v f (.int i), .v g (.int j)] Q = Q (.v .fro (.int (if j > i then j else i))) := rfl
@[simp] theorem min_3 {k : Int} : biW .min [.v f (.int i), .v g (.int j), .v h (.int k)] Q = Q (.v .fro (.int (minL i [j, k]))) := rfl
@[simp] theorem min_4 {h2 : Fl} {k l : Int} : biW .min [.v f (.int i), .v g (.int j), .v h (.int k), .v h2 (.int l)] Q = Q (.v .fro (.int (minL i [j, k, l]))) := rfl
@[simp] theorem min_2 : biW .min [.v f (.int i), .v g (.int j)] Q = Q (.v .fro (.int (if j < i then j else i))) := rfl
@[simp] theorem slW_v {QS : Sl → Prop} : slW (.v f d) QS = if d.pure = true then QS (.v .fro d) else (f ≠ .bor ∧ QS (.v f d)) := rfl
@[simp] theorem slW_n {QS : Sl → Prop} : slW (.n f d) QS = (f ≠ .bor ∧ QS (.o f d)) := rfl
@[simp] theorem put1_ {n : Nat} {env : En} {QN : En → Prop} : put1 n f d env QN = if d.pure = true then QN (env.set n (.v .fro d)) else (f ≠ .bor ∧ QN (env.set n (.v f d))) := rfl
@[simp] theorem retW_v : retW (.v f d) Q = if d.pure = true then Q (.v .fro d) else (f ≠ .bor ∧ Q (.v f d)) := rfl
@[simp] theorem retW_n : retW (.n f d) Q = (f ≠ .bor ∧ Q (.n f d)) := rfl
@[simp] theorem elW_ {r : R} {QE : Fl → D → Prop} : elW r QE = (r.fl ≠ .bor ∧ QE r.fl r.d) := rfl
@[simp] theorem tg_nm {n : Nat} {r : R} {env : En} {QN : En → Prop} : tgW (.nm n) r env QN = slW r fun s => QN (env.set n s) := rfl
@[simp] theorem tg_t2 {i j : Nat} {a b : D} {env : En} {QN : En → Prop} : tgW (.t2 i j) (.v f (.tup [a, b])) env QN = (put1 i (R.v f (.tup [a, b])).fl a env fun e => put1 j (R.v f (.tup [a, b])).fl b e QN) := rfl
@[simp] theorem tg_lv2 {i j : Nat} {a b : D} {env : En} {QN : En → Prop} : tgW (.t2 i j) (.v f (.lst [a, b])) env QN = (put1 i (R.v f (.lst [a, b])).fl a env fun e => put1 j (R.v f (.lst [a, b])).fl b e QN) := rfl
@[simp] theorem tg_ln2 {i j : Nat} {a b : D} {env : En} {QN : En → Prop} : tgW (.t2 i j) (.n f (.lst [a, b])) env QN = (put1 i (R.n f (.lst [a, b])).fl a env fun e => put1 j (R.n f (.lst [a, b])).fl b e QN) := rfl
@[simp] theorem tg_t3 {i j l : Nat} {a b c : D} {env : En} {QN : En → Prop} : tgW (.t3 i j l) (.v f (.tup [a, b, c])) env QN = (put1 i (R.v f (.tup [a, b, c])).fl a env fun e => put1 j (R.v f (.tup [a, b, c])).fl b e fun e => put1 l (R.v f (.tup [a, b, c])).fl c e QN) := rfl
@[simp] theorem tg_lv3 {i j l : Nat} {a b c : D} {env : En} {QN : En → Prop} : tgW (.t3 i j l) (.v f (.lst [a, b, c])) env QN = (put1 i (R.v f (.lst [a, b, c])).fl a env fun e => put1 j (R.v f (.lst [a, b, c])).fl b e fun e => put1 l (R.v f (.lst [a, b, c])).fl c e QN) := rfl
@[simp] theorem tg_ln3 {i j l : Nat} {a b c : D} {env : En} {QN : En → Prop} : tgW (.t3 i j l) (.n f (.lst [a, b, c])) env QN = (put1 i (R.n f (.lst [a, b, c])).fl a env fun e => put1 j (R.n f (.lst [a, b, c])).fl b e fun e => put1 l (R.n f (.lst [a, b, c])).fl c e QN) := rfl
@[simp] theorem tg_t4 {i j l m : Nat} {a b c d : D} {env : En} {QN : En → Prop} : tgW (.t4 i j l m) (.v f (.tup [a, b, c, d])) env QN = (put1 i (R.v f (.tup [a, b, c, d])).fl a env fun e => put1 j (R.v f (.tup [a, b, c, d])).fl b e fun e => put1 l (R.v f (.tup [a, b, c, d])).fl c e fun e => put1 m (R.v f (.tup [a, b, c, d])).fl d e QN) := rfl
@[simp] theorem tg_lv4 {i j l m : Nat} {a b c d : D} {env : En} {QN : En → Prop} : tgW (.t4 i j l m) (.v f (.lst [a, b, c, d])) env QN = (put1 i (R.v f (.lst [a, b, c, d])).fl a env fun e => put1 j (R.v f (.lst [a, b, c, d])).fl b e fun e => put1 l (R.v f (.lst [a, b, c, d])).fl c e fun e => put1 m (R.v f (.lst [a, b, c, d])).fl d e QN) := rfl
@[simp] theorem tg_ln4 {i j l m : Nat} {a b c d : D} {env : En} {QN : En → Prop} : tgW (.t4 i j l m) (.n f (.lst [a, b, c, d])) env QN = (put1 i (R.n f (.lst [a, b, c, d])).fl a env fun e => put1 j (R.n f (.lst [a, b, c, d])).fl b e fun e => put1 l (R.n f (.lst [a, b, c, d])).fl c e fun e => put1 m (R.n f (.lst [a, b, c, d])).fl d e QN) := rfl
@[simp] theorem tgS_nm {n : Nat} : tgS (.nm n) = [n] := rfl
@[simp] theorem tgS_t2 {i j : Nat} : tgS (.t2 i j) = [i, j] := rfl
@[simp] theorem tgS_t3 {i j l : Nat} : tgS (.t3 i j l) = [i, j, l] := rfl
@[simp] theorem tgS_t4 {i j l m : Nat} : tgS (.t4 i j l m) = [i, j, l, m] := rfl
@[simp] theorem tgS_tt {i j l m : Nat} : tgS (.tt i j l m) = [i, j, l, m] := rfl
@[simp] theorem tg_tt {i j l m : Nat} {a b c d : D} {env : En} {QN : En → Prop} : tgW (.tt i j l m) (.v f (.tup [.tup [a, b], .tup [c, d]])) env QN = (put1 i (R.v f (.tup [.tup [a, b], .tup [c, d]])).fl a env fun e => put1 j (R.v f (.tup [.tup [a, b], .tup [c, d]])).fl b e fun e => put1 l (R.v f (.tup [.tup [a, b], .tup [c, d]])).fl c e fun e => put1 m (R.v f (.tup [.tup [a, b], .tup [c, d]])).fl d e QN) := rfl
@[simp] theorem wipe_nil {env : En} : wipeE env [] = env := rfl
@[simp] theorem wipe_cons {env : En} {n : Nat} {l : List Nat} : wipeE env (n :: l) = (wipeE env l).set n .e := rfl
@[simp] theorem argSl_ : argSl d = if d.pure = true then .v .fro d else .v .arg d := rfl
theorem run_def {m : F} {args : List D} {Q : Out → Prop} : m.run args Q = (args.length = m.ps ∧ wpSs m.body { nx := fun _ => Q (.ret (.v .fro .non)), rt := fun r => Q (.ret r), bk := fun _ => False, ct := fun _ => False, ex := fun x _ => Q (.exn x) } (args.map argSl ++ List.replicate (m.n - m.ps) .e)) := rfl
@[simp] theorem varW_ {env : En} {n : Nat} : varW env n Q = (match env[n]? with | some (.v f d) => Q (.v f d) | some (.o f d) => Q (.b f d) | _ => False) := rfl
@[simp] theorem ownL_ {env : En} {n : Nat} {QO : Fl → List D → Prop} : ownL env n QO = (match env[n]? with | some (.o f (.lst ds)) => QO f ds | _ => False) := rfl
@[simp] theorem ownD_ {env : En} {n : Nat} {QO : Fl → D → Prop} : ownD env n QO = (match env[n]? with | some (.o f d) => QO f d | _ => False) := rfl
@[simp] theorem retvW_ {env : En} {n : Nat} : retvW env n Q = (match env[n]? with | some (.v f d) => retW (.v f d) Q | some (.o f d) => Q (.n f d) | _ => False) := rfl
@[simp] theorem frzE_ {env : En} {n : Nat} : frzE env n = (match env[n]? with | some (.o f d) => env.set n (.v f d) | _ => env) := rfl
@[simp] theorem wpAE1 {e : E} {env : En} {X : Exn → Prop} : wpAE (.cons e .nil) env Q X = wpE e env Q X := rfl
@[simp] theorem wpAE2 {e e2 : E} {es : Es} {env : En} {X : Exn → Prop} : wpAE (.cons e (.cons e2 es)) env Q X = wpE e env (fun x => match x.d with | .bl true => wpAE (.cons e2 es) env Q X | .bl false => Q (.v .fro (.bl false)) | _ => False) X := rfl
@[simp] theorem wpOE1 {e : E} {env : En} {X : Exn → Prop} : wpOE (.cons e .nil) env Q X = wpE e env Q X := rfl
@[simp] theorem wpOE2 {e e2 : E} {es : Es} {env : En} {X : Exn → Prop} : wpOE (.cons e (.cons e2 es)) env Q X = wpE e env (fun x => match x.d with | .bl false => wpOE (.cons e2 es) env Q X | .bl true => Q (.v .fro (.bl true)) | _ => False) X := rfl
@[simp] theorem wpAT1 {e : E} {env : En} {X : Exn → Prop} : wpAT (.cons e .nil) env QB X = wpT e env QB X := rfl
@[simp] theorem wpAT2 {e e2 : E} {es : Es} {env : En} {X : Exn → Prop} : wpAT (.cons e (.cons e2 es)) env QB X = wpT e env (fun k => if k = true then wpAT (.cons e2 es) env QB X else QB false) X := rfl
@[simp] theorem wpOT1 {e : E} {env : En} {X : Exn → Prop} : wpOT (.cons e .nil) env QB X = wpT e env QB X := rfl
@[simp] theorem wpOT2 {e e2 : E} {es : Es} {env : En} {X : Exn → Prop} : wpOT (.cons e (.cons e2 es)) env QB X = wpT e env (fun k => if k = true then QB true else wpOT (.cons e2 es) env QB X) X := rfl
@[simp] theorem addL_vv : binW .add (.v f (.lst ds)) (.v g (.lst es)) Q = (ds.length + es.length ≤ line ∧ Q (.n (f.inf g) (.lst (ds ++ es)))) := rfl
@[simp] theorem addL_bb : binW .add (.b f (.lst ds)) (.b g (.lst es)) Q = (ds.length + es.length ≤ line ∧ Q (.n (f.inf g) (.lst (ds ++ es)))) := rfl
@[simp] theorem addL_bv : binW .add (.b f (.lst ds)) (.v g (.lst es)) Q = (ds.length + es.length ≤ line ∧ Q (.n (f.inf g) (.lst (ds ++ es)))) := rfl
@[simp] theorem addL_bn : binW .add (.b f (.lst ds)) (.n g (.lst es)) Q = (ds.length + es.length ≤ line ∧ Q (.n (f.inf g) (.lst (ds ++ es)))) := rfl
@[simp] theorem addL_vb : binW .add (.v f (.lst ds)) (.b g (.lst es)) Q = (ds.length + es.length ≤ line ∧ Q (.n (f.inf g) (.lst (ds ++ es)))) := rfl
@[simp] theorem addL_nb : binW .add (.n f (.lst ds)) (.b g (.lst es)) Q = (ds.length + es.length ≤ line ∧ Q (.n (f.inf g) (.lst (ds ++ es)))) := rfl
@[simp] theorem addL_vn : binW .add (.v f (.lst ds)) (.n g (.lst es)) Q = (ds.length + es.length ≤ line ∧ Q (.n (f.inf g) (.lst (ds ++ es)))) := rfl
@[simp] theorem addL_nv : binW .add (.n f (.lst ds)) (.v g (.lst es)) Q = (ds.length + es.length ≤ line ∧ Q (.n (f.inf g) (.lst (ds ++ es)))) := rfl
@[simp] theorem addL_nn : binW .add (.n f (.lst ds)) (.n g (.lst es)) Q = (ds.length + es.length ≤ line ∧ Q (.n (f.inf g) (.lst (ds ++ es)))) := rfl
@[simp] theorem mulL_v : binW .mul (.v f (.lst ds)) (.v g (.int k)) Q = ((-(2 ^ 63) ≤ k ∧ k < 2 ^ 63 ∧ ds.length * k.toNat ≤ line) ∧ Q (.n f (.lst (List.replicate k.toNat ds).flatten))) := rfl
@[simp] theorem mulL_v_b : binW .mul (.b f (.lst ds)) (.v g (.int k)) Q = ((-(2 ^ 63) ≤ k ∧ k < 2 ^ 63 ∧ ds.length * k.toNat ≤ line) ∧ Q (.n f (.lst (List.replicate k.toNat ds).flatten))) := rfl
@[simp] theorem mulL_n : binW .mul (.n f (.lst ds)) (.v g (.int k)) Q = ((-(2 ^ 63) ≤ k ∧ k < 2 ^ 63 ∧ ds.length * k.toNat ≤ line) ∧ Q (.n f (.lst (List.replicate k.toNat ds).flatten))) := rfl
@[simp] theorem optI_n : optI none = some none := rfl
@[simp] theorem optI_s : optI (some (.v f (.int i))) = some (some i) := rfl
theorem sliW_ {x : R} {lo hi : Option R} {l h : Option Int} (e1 : optI lo = some l) (e2 : optI hi = some h) : sliW x lo hi Q = (match x.d with
    | .lst ds => Q (.n x.efl (.lst (cut ds l h)))
    | .tup ds => Q (.v x.fl (.tup (cut ds l h)))
    | .str z => z.length ≤ line ∧ Q (.v .fro (.str (cutStr z l h)))
    | _ => False) := by unfold sliW; rw [e1, e2]
@[simp] theorem sli_nn {x : R} : sliW x none none Q = (match x.d with
    | .lst ds => Q (.n x.efl (.lst (cut ds none none)))
    | .tup ds => Q (.v x.fl (.tup (cut ds none none)))
    | .str z => z.length ≤ line ∧ Q (.v .fro (.str (cutStr z none none)))
    | _ => False) := rfl
@[simp] theorem sli_sn {x : R} : sliW x (some (.v f (.int i))) none Q = (match x.d with
    | .lst ds => Q (.n x.efl (.lst (cut ds (some i) none)))
    | .tup ds => Q (.v x.fl (.tup (cut ds (some i) none)))
    | .str z => z.length ≤ line ∧ Q (.v .fro (.str (cutStr z (some i) none)))
    | _ => False) := rfl
@[simp] theorem sli_ns {x : R} : sliW x none (some (.v f (.int i))) Q = (match x.d with
    | .lst ds => Q (.n x.efl (.lst (cut ds none (some i))))
    | .tup ds => Q (.v x.fl (.tup (cut ds none (some i))))
    | .str z => z.length ≤ line ∧ Q (.v .fro (.str (cutStr z none (some i))))
    | _ => False) := rfl
@[simp] theorem sli_ss {x : R} : sliW x (some (.v f (.int i))) (some (.v g (.int j))) Q = (match x.d with
    | .lst ds => Q (.n x.efl (.lst (cut ds (some i) (some j))))
    | .tup ds => Q (.v x.fl (.tup (cut ds (some i) (some j))))
    | .str z => z.length ≤ line ∧ Q (.v .fro (.str (cutStr z (some i) (some j))))
    | _ => False) := rfl
@[simp] theorem revW_v : revW (.v f (.lst ds)) Q = Q (.n f (.lst ds.reverse)) := rfl
@[simp] theorem revW_v_b : revW (.b f (.lst ds)) Q = Q (.n f (.lst ds.reverse)) := rfl
@[simp] theorem revW_n : revW (.n f (.lst ds)) Q = Q (.n f (.lst ds.reverse)) := rfl
@[simp] theorem seqOf_lst : seqOf (.lst ds) = some ds := rfl
@[simp] theorem seqOf_tup : seqOf (.tup ds) = some ds := rfl
@[simp] theorem isi_v {t : String} : isiW (.v f d) t QB = (match isTy d t with | some b => QB b | none => False) := rfl
@[simp] theorem isi_n {t : String} : isiW (.n f d) t QB = (match isTy d t with | some b => QB b | none => False) := rfl
@[simp] theorem isTy_int {t : String} : isTy (.int i) t = some (t == "int") := rfl
@[simp] theorem isTy_bl {t : String} : isTy (.bl b) t = some (t == "bool" || t == "int") := rfl
@[simp] theorem isTy_lst {t : String} : isTy (.lst ds) t = some (t == "list") := rfl
@[simp] theorem isTy_tup {t : String} : isTy (.tup ds) t = some (t == "tuple") := rfl
@[simp] theorem isTy_non {t : String} : isTy .non t = some false := rfl
@[simp] theorem isTy_str {x : Str} {t : String} : isTy (.str x) t = some (t == "str") := rfl
@[simp] theorem forL_nil {t : Tg} {B : Ko → En → Prop} {k : Ko} {env : En} : forL t B k f [] env = k.nx env := rfl
theorem forL_cons {t : Tg} {B : Ko → En → Prop} {k : Ko} {env : En} : forL t B k f (d :: ds) env = (tgW t (.v f d) env fun e => B { k with nx := forL t B k f ds, ct := forL t B k f ds, bk := k.nx } e) := rfl
@[simp] theorem callW_ {sp : FSpec} {xs : List R} {X : Exn → Prop} : callW sp xs Q X = (sp (xs.map R.d) fun o => match o with
    | .ret (.v .fro d) => Q (.v .fro d)
    | .ret (.v .arg d) => Q (.v (flAll xs) d)
    | .ret (.n .fro d) => Q (.n .fro d)
    | .ret (.n .arg d) => Q (.n (flAll xs) d)
    | .ret _ => False
    | .exn x => X x) := rfl
@[simp] theorem noX_e : Sl.noX .e = .e := rfl
@[simp] theorem noX_v {f : Fl} {d : D} : Sl.noX (.v f d) = .v f d := rfl
@[simp] theorem noX_o {f : Fl} {d : D} : Sl.noX (.o f d) = .o f d := rfl
@[simp] theorem noX_x {c f : Str} {as : List D} : Sl.noX (.x c f as) = .e := rfl
@[simp] theorem dropX_nil : dropX [] = [] := rfl
@[simp] theorem dropX_cons {s : Sl} {r : En} : dropX (s :: r) = s.noX :: dropX r := rfl
@[simp] theorem bi_list_v {f : Fl} : biW .list [.v f (.lst ds)] Q = Q (.n f (.lst ds)) := rfl
@[simp] theorem bi_list_v_b {f : Fl} : biW .list [.b f (.lst ds)] Q = Q (.n f (.lst ds)) := rfl
@[simp] theorem bi_list_n {f : Fl} : biW .list [.n f (.lst ds)] Q = Q (.n f (.lst ds)) := rfl
@[simp] theorem bi_list_t {f : Fl} : biW .list [.v f (.tup ds)] Q = Q (.n (R.v f (.tup ds)).fl (.lst ds)) := rfl
@[simp] theorem bi_list_d {f : Fl} {kvs : List (Key × D)} : biW .list [.v f (.dic kvs)] Q = Q (.n .fro (.lst (kvs.map fun kv => keyD kv.1))) := rfl
@[simp] theorem bi_list_d_b {f : Fl} {kvs : List (Key × D)} : biW .list [.b f (.dic kvs)] Q = Q (.n .fro (.lst (kvs.map fun kv => keyD kv.1))) := rfl
@[simp] theorem bi_tup_v {f : Fl} : biW .tuple [.v f (.lst ds)] Q = Q (.v f (.tup ds)) := rfl
@[simp] theorem bi_tup_v_b {f : Fl} : biW .tuple [.b f (.lst ds)] Q = Q (.v f (.tup ds)) := rfl
@[simp] theorem bi_tup_n {f : Fl} : biW .tuple [.n f (.lst ds)] Q = Q (.v f (.tup ds)) := rfl
@[simp] theorem bi_tup_t {f : Fl} : biW .tuple [.v f (.tup ds)] Q = Q (.v (R.v f (.tup ds)).fl (.tup ds)) := rfl
@[simp] theorem bi_sum_v {f : Fl} : biW .sum [.v f (.lst ds)] Q = (match intsOf ds with | some r => Q (.v .fro (.int r.sum)) | _ => False) := rfl
@[simp] theorem bi_sum_v_b {f : Fl} : biW .sum [.b f (.lst ds)] Q = (match intsOf ds with | some r => Q (.v .fro (.int r.sum)) | _ => False) := rfl
@[simp] theorem bi_sum_n {f : Fl} : biW .sum [.n f (.lst ds)] Q = (match intsOf ds with | some r => Q (.v .fro (.int r.sum)) | _ => False) := rfl
@[simp] theorem bi_all_v {f : Fl} : biW .all [.v f (.lst ds)] Q = (match blsOf ds with | some r => Q (.v .fro (.bl (r.all id))) | _ => False) := rfl
@[simp] theorem bi_all_v_b {f : Fl} : biW .all [.b f (.lst ds)] Q = (match blsOf ds with | some r => Q (.v .fro (.bl (r.all id))) | _ => False) := rfl
@[simp] theorem bi_all_n {f : Fl} : biW .all [.n f (.lst ds)] Q = (match blsOf ds with | some r => Q (.v .fro (.bl (r.all id))) | _ => False) := rfl
@[simp] theorem bi_any_v {f : Fl} : biW .any [.v f (.lst ds)] Q = (match blsOf ds with | some r => Q (.v .fro (.bl (r.any id))) | _ => False) := rfl
@[simp] theorem bi_any_v_b {f : Fl} : biW .any [.b f (.lst ds)] Q = (match blsOf ds with | some r => Q (.v .fro (.bl (r.any id))) | _ => False) := rfl
@[simp] theorem bi_any_n {f : Fl} : biW .any [.n f (.lst ds)] Q = (match blsOf ds with | some r => Q (.v .fro (.bl (r.any id))) | _ => False) := rfl
@[simp] theorem bi_int_i {f : Fl} : biW .int [.v f (.int i)] Q = Q (.v .fro (.int i)) := rfl
@[simp] theorem bi_int_b {f : Fl} {b : Bool} : biW .int [.v f (.bl b)] Q = Q (.v .fro (.int (if b then 1 else 0))) := rfl
@[simp] theorem bi_divmod {f g : Fl} : biW .divmod [.v f (.int i), .v g (.int j)] Q = ((0 < j ∧ j.natAbs.log2 < 9000) ∧ Q (.v .fro (.tup [.int (i / j), .int (i % j)]))) := rfl
@[simp] theorem intsOf_nil : intsOf [] = some [] := rfl
@[simp] theorem intsOf_cons {ds : List D} : intsOf (.int i :: ds) = (intsOf ds).map (i :: ·) := rfl
@[simp] theorem intsOf_ints : ∀ w : List Int, intsOf (w.map D.int) = some w
  | [] => rfl
  | x :: w => by
    show (intsOf (w.map D.int)).map _ = _
    rw [intsOf_ints w]; rfl
@[simp] theorem blsOf_nil : blsOf [] = some [] := rfl
@[simp] theorem blsOf_cons {b : Bool} {ds : List D} : blsOf (.bl b :: ds) = (blsOf ds).map (b :: ·) := rfl
@[simp] theorem blsOf_bls : ∀ w : List Bool, blsOf (w.map D.bl) = some w
  | [] => rfl
  | x :: w => by
    show (blsOf (w.map D.bl)).map _ = _
    rw [blsOf_bls w]; rfl
theorem intsOf_eq : ∀ {ds : List D} {w : List Int}, intsOf ds = some w → ds = w.map D.int
  | [], w, h => by cases h; rfl
  | d :: ds, w, h => by
    cases d with
    | int i =>
      simp only [intsOf, Option.map_eq_some_iff] at h
      obtain ⟨r, hr, rfl⟩ := h
      rw [intsOf_eq hr]; rfl
    | _ => simp [intsOf] at h
@[simp] theorem sli_vl {f : Fl} {lo hi : Option R} : sliW (.v f (.lst ds)) lo hi Q = (match optI lo, optI hi with | some l, some h => Q (.n f (.lst (cut ds l h))) | _, _ => False) := rfl
@[simp] theorem sli_vl_b {f : Fl} {lo hi : Option R} : sliW (.b f (.lst ds)) lo hi Q = (match optI lo, optI hi with | some l, some h => Q (.n f (.lst (cut ds l h))) | _, _ => False) := rfl
@[simp] theorem sli_nl {f : Fl} {lo hi : Option R} : sliW (.n f (.lst ds)) lo hi Q = (match optI lo, optI hi with | some l, some h => Q (.n f (.lst (cut ds l h))) | _, _ => False) := rfl
@[simp] theorem rev_vl {f : Fl} : revW (.v f (.lst ds)) Q = Q (.n f (.lst ds.reverse)) := rfl
@[simp] theorem rev_vl_b {f : Fl} : revW (.b f (.lst ds)) Q = Q (.n f (.lst ds.reverse)) := rfl
@[simp] theorem rev_nl {f : Fl} : revW (.n f (.lst ds)) Q = Q (.n f (.lst ds.reverse)) := rfl
@[simp] theorem meT_c : meT .count (.lst ds) = true := rfl
@[simp] theorem meT_i : meT .index (.lst ds) = true := rfl
@[simp] theorem me_count {f : Fl} {y : R} : meW .count (.v f (.lst ds)) [y] Q = ((y.d.flat = true ∧ ds.all D.flat = true) ∧ Q (.v .fro (.int (ds.countP fun z => D.eqb z y.d : Nat)))) := rfl
@[simp] theorem me_count_b {f : Fl} {y : R} : meW .count (.b f (.lst ds)) [y] Q = ((y.d.flat = true ∧ ds.all D.flat = true) ∧ Q (.v .fro (.int (ds.countP fun z => D.eqb z y.d : Nat)))) := rfl
@[simp] theorem me_countn {f : Fl} {y : R} : meW .count (.n f (.lst ds)) [y] Q = ((y.d.flat = true ∧ ds.all D.flat = true) ∧ Q (.v .fro (.int (ds.countP fun z => D.eqb z y.d : Nat)))) := rfl
@[simp] theorem me_index {f : Fl} {y : R} : meW .index (.v f (.lst ds)) [y] Q = ((y.d.flat = true ∧ ds.all D.flat = true) ∧ (match ds.findIdx? fun z => D.eqb z y.d with | some j => Q (.v .fro (.int (j : Nat))) | none => False)) := rfl
@[simp] theorem me_index_b {f : Fl} {y : R} : meW .index (.b f (.lst ds)) [y] Q = ((y.d.flat = true ∧ ds.all D.flat = true) ∧ (match ds.findIdx? fun z => D.eqb z y.d with | some j => Q (.v .fro (.int (j : Nat))) | none => False)) := rfl
@[simp] theorem me_indexn {f : Fl} {y : R} : meW .index (.n f (.lst ds)) [y] Q = ((y.d.flat = true ∧ ds.all D.flat = true) ∧ (match ds.findIdx? fun z => D.eqb z y.d with | some j => Q (.v .fro (.int (j : Nat))) | none => False)) := rfl
@[simp] theorem isxW_ {env : En} {n : Nat} {cs : List Str} : isxW env n cs QB = (match env[n]? with | some (.x c _ _) => QB (cs.any fun t => subCls c t) | _ => False) := rfl
@[simp] theorem fldW_ {env : En} {n : Nat} {x : Str} : fldW env n x Q = (match env[n]? with | some (.x _ g [d]) => if x = g then Q (.v .fro d) else False | _ => False) := rfl
@[simp] theorem rgR_t {m n : Int} : rgR true m n = .v .fro (.tup (rangeL m n)) := rfl
@[simp] theorem rgR_f {m n : Int} : rgR false m n = .n .fro (.lst (rangeL m n)) := rfl
@[simp] theorem strsOf_nil : strsOf [] = some [] := rfl
@[simp] theorem strsOf_cons {x : Str} {ds : List D} : strsOf (.str x :: ds) = (strsOf ds).map (x :: ·) := rfl
@[simp] theorem strsOf_strs : ∀ w : List Str, strsOf (w.map D.str) = some w
  | [] => rfl
  | x :: w => by
    show (strsOf (w.map D.str)).map _ = _
    rw [strsOf_strs w]; rfl
@[simp] theorem bi_str_v {f : Fl} {i : Int} : biW .str [.v f (.int i)] Q = (i.natAbs.log2 < 1920 ∧ Q (.v .fro (.str (toString i)))) := rfl
@[simp] theorem bi_int_s {f : Fl} {a : Str} : biW .int [.v f (.str a)] Q = (a.length ≤ 640 ∧ (match PySem.intText? a with | some n => Q (.v .fro (.int n)) | none => False)) := rfl
@[simp] theorem me_split {f g : Fl} {a b : Str} : meW .split (.v f (.str a)) [.v g (.str b)] Q = (((b.length == 0) = false ∧ a.length + 2 ≤ line) ∧ Q (.n .fro (.lst ((Txt.split a b).map .str)))) := rfl
@[simp] theorem me_find {f g : Fl} {a b : Str} : meW .find (.v f (.str a)) [.v g (.str b)] Q = Q (.v .fro (.int (Txt.find a b))) := rfl
@[simp] theorem me_join {f g : Fl} {a : Str} : meW .join (.v f (.str a)) [.v g (.lst ds)] Q = (match strsOf ds with | some ys => (ys.map (·.length)).sum + ys.length * a.length ≤ 16777216 ∧ Q (.v .fro (.str (Txt.join a ys))) | none => False) := rfl
@[simp] theorem me_join_n {f g : Fl} {a : Str} : meW .join (.v f (.str a)) [.n g (.lst ds)] Q = (match strsOf ds with | some ys => (ys.map (·.length)).sum + ys.length * a.length ≤ 16777216 ∧ Q (.v .fro (.str (Txt.join a ys))) | none => False) := rfl
@[simp] theorem me_join_b {f g : Fl} {a : Str} : meW .join (.v f (.str a)) [.b g (.lst ds)] Q = (match strsOf ds with | some ys => (ys.map (·.length)).sum + ys.length * a.length ≤ 16777216 ∧ Q (.v .fro (.str (Txt.join a ys))) | none => False) := rfl
@[simp] theorem meT_split {a : Str} : meT .split (.str a) = true := rfl
@[simp] theorem meT_join {a : Str} : meT .join (.str a) = true := rfl
@[simp] theorem meT_find {a : Str} : meT .find (.str a) = true := rfl
@[simp] theorem bin_mul_s {f g : Fl} {a : Str} {k : Int} : binW .mul (.v f (.str a)) (.v g (.int k)) Q = ((-(2 ^ 62) ≤ k ∧ k < 2 ^ 62 ∧ a.length * k.toNat ≤ 1000000) ∧ Q (.v .fro (.str (Txt.mul a k)))) := rfl
@[simp] theorem sorted_v {f : Fl} : biW .sorted [.v f (.lst ds)] Q = (match intsOf ds with | some r => Q (.n .fro (.lst ((sortI r).map .int))) | none => (match strsOf ds with | some r => r.length < 64 ∧ ∀ ys : List Str, ys.Perm r → PyProof.Rows.sortedS ys = true → Q (.n .fro (.lst (ys.map .str))) | none => False)) := rfl
@[simp] theorem sorted_v_b {f : Fl} : biW .sorted [.b f (.lst ds)] Q = (match intsOf ds with | some r => Q (.n .fro (.lst ((sortI r).map .int))) | none => (match strsOf ds with | some r => r.length < 64 ∧ ∀ ys : List Str, ys.Perm r → PyProof.Rows.sortedS ys = true → Q (.n .fro (.lst (ys.map .str))) | none => False)) := rfl
@[simp] theorem sorted_n {f : Fl} : biW .sorted [.n f (.lst ds)] Q = (match intsOf ds with | some r => Q (.n .fro (.lst ((sortI r).map .int))) | none => (match strsOf ds with | some r => r.length < 64 ∧ ∀ ys : List Str, ys.Perm r → PyProof.Rows.sortedS ys = true → Q (.n .fro (.lst (ys.map .str))) | none => False)) := rfl
end

theorem log2_lt {n k : Nat} (hk : 0 < k) (h : n < 2 ^ k) : n.log2 < k := by
  by_cases h0 : n = 0
  · subst h0; simpa using hk
  · exact (Nat.log2_lt h0).2 h
theorem mulOk_l {i j : Int} (h1 : -(2 ^ 64) < i) (h2 : i < 2 ^ 64) : mulOk i j := .inl ⟨h1, h2⟩
theorem mulOk_r {i j : Int} (h1 : -(2 ^ 64) < j) (h2 : j < 2 ^ 64) : mulOk i j := .inr (.inl ⟨h1, h2⟩)
theorem mulOk_w {i j : Int} (a b : Nat) (ha : i.natAbs < 2 ^ a) (hb : j.natAbs < 2 ^ b) (h0 : 0 < a) (h1 : 0 < b) (h : a + b ≤ 1000000) : mulOk i j := by
  have x := log2_lt h0 ha
  have y := log2_lt h1 hb
  exact .inr (.inr (by omega))
theorem divOk_of {j : Int} (b : Nat) (h : j ≠ 0) (hb : j.natAbs < 2 ^ b) (h0 : 0 < b) (h9 : b ≤ 9000) : divOk j := ⟨h, Nat.lt_of_lt_of_le (log2_lt h0 hb) h9⟩
@[simp] theorem wreckW_clear {i : Nat} {we : En → (R → Prop) → (Exn → Prop) → Prop} {k : Ko} {env : En} : wreckW .clear i we k env = (match env[i]? with | some (.v .fro (.lst _)) => k.nx ((wreckE env).set i .e) | _ => False) := rfl
@[simp] theorem wreckW_app {i : Nat} {we : En → (R → Prop) → (Exn → Prop) → Prop} {k : Ko} {env : En} : wreckW .app i we k env = (match env[i]? with | some (.v .fro (.lst ds)) => we env (fun _ => ds.length < line ∧ k.nx ((wreckE env).set i .e)) (fun x => k.ex x env) | _ => False) := rfl
@[simp] theorem wreckW_each {i t : Nat} {we : En → (R → Prop) → (Exn → Prop) → Prop} {k : Ko} {env : En} : wreckW (.each t) i we k env = (match env[i]? with
  | some (.o .fro (.lst ds)) => i ≠ t ∧ t < env.length ∧ ds.length ≤ 100000 ∧ (∀ d ∈ ds, ∃ es, Inn none d es ∧ es.length ≤ 100000) ∧ (∃ c, D.pure c = true ∧ ∀ e, we e (fun r => r = .v .fro c) fun _ => False) ∧
    ∀ ds', ds'.length = ds.length → k.nx (((wreckE env).set t .e).set i (.o .fro (.lst ds')))
  | _ => False) := rfl
@[simp] theorem wreckW_at {i t j : Nat} {we : En → (R → Prop) → (Exn → Prop) → Prop} {k : Ko} {env : En} : wreckW (.at_ t j) i we k env = (match env[i]? with
  | some (.o .fro (.lst ds)) => i ≠ t ∧ t < env.length ∧ ds.length ≤ 100000 ∧ (∀ d ∈ ds, ∃ es, Inn (some j) d es ∧ es.length ≤ 100000) ∧ (∃ c, D.pure c = true ∧ ∀ e, we e (fun r => r = .v .fro c) fun _ => False) ∧
    ∀ ds', ds'.length = ds.length → k.nx (((wreckE env).set t .e).set i (.o .fro (.lst ds')))
  | _ => False) := rfl
@[simp] theorem wreckE_nil : wreckE [] = [] := rfl
@[simp] theorem wreckE_cons {s : Sl} {r : En} : wreckE (s :: r) = s.wr :: wreckE r := rfl
@[simp] theorem wr_e : Sl.wr .e = .e := rfl
@[simp] theorem wr_v {f : Fl} {d : D} : Sl.wr (.v f d) = if d.pure = true then .v f d else .e := rfl
@[simp] theorem wr_o {f : Fl} {d : D} : Sl.wr (.o f d) = if d.calmO = true then .o f d else .e := rfl
@[simp] theorem wr_x {c f : Str} {as : List D} : Sl.wr (.x c f as) = .x c f as := rfl
@[simp] theorem calmO_lst {ds : List D} : D.calmO (.lst ds) = D.pureL ds := rfl
@[simp] theorem calmO_dic {kvs : List (Key × D)} : D.calmO (.dic kvs) = D.pureL (kvs.map (·.2)) := rfl

@[simp] theorem fldC_p : fldC (Str.ofString "NoPrime") = Str.ofString "divisor" := by unfold fldC; rw [if_pos rfl]
@[simp] theorem fldC_n : fldC (Str.ofString "NoName") = Str.ofString "name" := by
  unfold fldC
  rw [if_neg]
  rw [ofStr_inj]
  decide
end Dv

namespace Dv
open PySem PySem.Spec PyProof.Rows L2

/-! ### how the heap bears a tree -/
/-- the text's error classes: where they stand, their names -/
structure CaL where
  f : Str → Addr
  l : List Str
instance : CoeFun CaL (fun _ => Str → Addr) := ⟨CaL.f⟩
structure Cc where
  K : PySem.W.Frag
  S : Addr → List Int → Prop
  Z : Addr → Option Addr → Str → Prop
  A : Addr → Prop
  B : Addr → Prop
  H0 : Hp
  ca : CaL

inductive Rep (C : Cc) (P : Addr → Prop) (H : Hp) : D → V → Prop
  | non : Rep C P H .non .non
  | bl (b : Bool) : Rep C P H (.bl b) (.bl b)
  | int (i : Int) : Rep C P H (.int i) (.int i)
  | str (x : Str) : Rep C P H (.str x) (.str x)
  | tup {ds : List D} {a : Addr} {vs : List V} (h : SqT C.K H a vs) (hl : ds.length = vs.length) (he : ∀ (i : Nat) d v, ds[i]? = some d → vs[i]? = some v → Rep C P H d v) : Rep C P H (.tup ds) (.ref a)
  | lst {ds : List D} {a : Addr} {vs : List V} (p : P a) (h : H a = some (.lst vs)) (hl : ds.length = vs.length) (he : ∀ (i : Nat) d v, ds[i]? = some d → vs[i]? = some v → Rep C P H d v) : Rep C P H (.lst ds) (.ref a)
  | dic {kvs : List (Key × D)} {a : Addr} {vs : List (Key × V)} (p : P a) (h : H a = some (.dK vs)) (hk : kvs.map (·.1) = vs.map (·.1))
      (he : ∀ (i : Nat) d v, (kvs.map (·.2))[i]? = some d → (vs.map (·.2))[i]? = some v → Rep C P H d v) : Rep C P H (.dic kvs) (.ref a)
  | scr {ns : List Int} {a : Addr} (h : C.S a ns) : Rep C P H (.scr ns) (.ref a)
  | ty (n : String) : Rep C P H (.ty n) (.ty n)

def RepL (C : Cc) (P : Addr → Prop) (H : Hp) (ds : List D) (vs : List V) : Prop :=
  ds.length = vs.length ∧ ∀ (i : Nat) d v, ds[i]? = some d → vs[i]? = some v → Rep C P H d v
def RepK (C : Cc) (P : Addr → Prop) (H : Hp) (kvs : List (Key × D)) (vs : List (Key × V)) : Prop :=
  kvs.map (·.1) = vs.map (·.1) ∧ ∀ (i : Nat) d v, (kvs.map (·.2))[i]? = some d → (vs.map (·.2))[i]? = some v → Rep C P H d v

/-- what stays: what P holds of, the tuples, what is locked -/
structure Keep (P : Addr → Prop) (H H' : Hp) : Prop where
  p : ∀ b o, P b → H b = some o → H' b = some o
  t : ∀ b xs, H b = some (.tup xs) → H' b = some (.tup xs)
  f : ∀ b o u, H b = some (.frz o u) → H' b = some (.frz o u)
  x : ∀ b fs, H b = some (.xd fs) → H' b = some (.xd fs)
theorem Keep.same {P : Addr → Prop} {H H' : Hp} (s : Same H H') : Keep P H H' := ⟨fun b o _ => s b o, fun b xs => s b _, fun b o u => s b _, fun b fs => s b _⟩
theorem Keep.tup {P : Addr → Prop} {H H' : Hp} (k : Keep P H H') {K : PySem.W.Frag} {a : Addr} {vs : List V} (h : SqT K H a vs) : SqT K H' a vs := by
  rcases h with (h | ⟨o, h⟩) | h
  · exact .inl (.inl (k.t _ _ h))
  · exact .inl (.inr ⟨o, k.f _ _ _ h⟩)
  · exact .inr h
/-- an owned list or dict changes -/
theorem Keep.upd {P : Addr → Prop} {H : Hp} {a : Addr} {o u : HO} (h : H a = some o) (ho : (∃ xs, o = .lst xs) ∨ ∃ kvs, o = .dK kvs) (hp : ¬ P a) : Keep P H (upd H a u) := by
  have ne : ∀ b z, H b = some z → (∀ xs, z ≠ .lst xs) → (∀ kvs, z ≠ .dK kvs) → b ≠ a := fun b z e h1 h2 q => by
    rw [q, h] at e
    have e2 := Option.some.inj e
    rcases ho with ⟨xs, q2⟩ | ⟨xs, q2⟩
    · exact h1 xs (e2.symm.trans q2)
    · exact h2 xs (e2.symm.trans q2)
  refine ⟨fun b z p e => ?_, fun b xs e => ?_, fun b z w e => ?_, fun b fs e => ?_⟩
  · rw [upd_ne (fun q => hp (by rw [← q]; exact p))]; exact e
  · rw [upd_ne (ne b _ e (fun _ => by intro z; cases z) (fun _ => by intro z; cases z))]; exact e
  · rw [upd_ne (ne b _ e (fun _ => by intro z; cases z) (fun _ => by intro z; cases z))]; exact e
  · rw [upd_ne (ne b _ e (fun _ => by intro z; cases z) (fun _ => by intro z; cases z))]; exact e

theorem Rep.keep {C : Cc} {P : Addr → Prop} {H H' : Hp} (k : Keep P H H') {d : D} {v : V} (r : Rep C P H d v) : Rep C P H' d v := by
  induction r with
  | non => exact .non
  | bl b => exact .bl b
  | int i => exact .int i
  | str x => exact .str x
  | tup h hl he ih => exact .tup (k.tup h) hl ih
  | lst p h hl he ih => exact .lst p (k.p _ _ p h) hl ih
  | dic p h hk he ih => exact .dic p (k.p _ _ p h) hk ih
  | scr h => exact .scr h
  | ty n => exact .ty n
theorem Rep.imp {C : Cc} {P P' : Addr → Prop} {H : Hp} (k : ∀ a, (∃ o, H a = some o) → P a → P' a) {d : D} {v : V} (r : Rep C P H d v) : Rep C P' H d v := by
  induction r with
  | non => exact .non
  | bl b => exact .bl b
  | int i => exact .int i
  | str x => exact .str x
  | tup h hl he ih => exact .tup h hl ih
  | lst p h hl he ih => exact .lst (k _ ⟨_, h⟩ p) h hl ih
  | dic p h hk he ih => exact .dic (k _ ⟨_, h⟩ p) h hk ih
  | scr h => exact .scr h
  | ty n => exact .ty n
theorem Rep.same {C : Cc} {P : Addr → Prop} {H H' : Hp} (s : Same H H') {d : D} {v : V} (r : Rep C P H d v) : Rep C P H' d v := r.keep (Keep.same s)
/-- another context of the same text: what is told of the script and of errors in hand -/
theorem Rep.ctx {C C' : Cc} {P : Addr → Prop} {H : Hp} (hK : C'.K = C.K) (hS : ∀ a ns, C.S a ns → C'.S a ns) {d : D} {v : V} (r : Rep C P H d v) : Rep C' P H d v := by
  induction r with
  | non => exact .non
  | bl b => exact .bl b
  | int i => exact .int i
  | str x => exact .str x
  | tup h hl he ih => exact .tup (by rw [hK]; exact h) hl ih
  | lst p h hl he ih => exact .lst p h hl ih
  | dic p h hk he ih => exact .dic p h hk ih
  | scr h => exact .scr (hS _ _ h)
  | ty n => exact .ty n
theorem pureL_get : ∀ {ds : List D} {i : Nat} {d : D}, D.pureL ds = true → ds[i]? = some d → D.pure d = true
  | [], _, _, _, h => by simp at h
  | x :: r, 0, d, h, e => by
    simp at e; subst e
    simp at h; exact h.1
  | x :: r, i + 1, d, h, e => by
    simp at h
    exact pureL_get h.2 (by simpa using e)
theorem Rep.pure {C : Cc} {P P' : Addr → Prop} {H : Hp} {d : D} {v : V} (r : Rep C P H d v) : d.pure = true → Rep C P' H d v := by
  induction r with
  | non => exact fun _ => .non
  | bl b => exact fun _ => .bl b
  | int i => exact fun _ => .int i
  | str x => exact fun _ => .str x
  | tup h hl he ih => exact fun p => .tup h hl fun i d v e1 e2 => ih i d v e1 e2 (pureL_get p e1)
  | lst p h hl he ih => exact fun q => by cases q
  | dic p h hk he ih => exact fun q => by cases q
  | scr h => exact fun _ => .scr h
  | ty n => exact fun _ => .ty n
section
variable {C : Cc} {P P' : Addr → Prop} {H H' : Hp} {ds es : List D} {vs us : List V} {d : D} {v : V}
theorem RepL.nil : RepL C P H [] [] := ⟨rfl, fun i d v e _ => by simp at e⟩
theorem RepL.cons (h : Rep C P H d v) (t : RepL C P H ds vs) : RepL C P H (d :: ds) (v :: vs) := by
  refine ⟨by simp [t.1], fun i d' v' e1 e2 => ?_⟩
  cases i with
  | zero => simp at e1 e2; subst e1 e2; exact h
  | succ i => exact t.2 i d' v' (by simpa using e1) (by simpa using e2)
theorem RepL.head (t : RepL C P H (d :: ds) (v :: vs)) : Rep C P H d v := t.2 0 d v rfl rfl
theorem RepL.tail (t : RepL C P H (d :: ds) (v :: vs)) : RepL C P H ds vs := ⟨by simpa using t.1, fun i d' v' e1 e2 => t.2 (i + 1) d' v' (by simpa using e1) (by simpa using e2)⟩
theorem RepL.map (h : ∀ d v, Rep C P H d v → Rep C P' H' d v) (t : RepL C P H ds vs) : RepL C P' H' ds vs := ⟨t.1, fun i d v e1 e2 => h d v (t.2 i d v e1 e2)⟩
theorem RepL.keep (k : Keep P H H') (t : RepL C P H ds vs) : RepL C P H' ds vs := t.map fun _ _ r => r.keep k
theorem RepL.same (s : Same H H') (t : RepL C P H ds vs) : RepL C P H' ds vs := t.map fun _ _ r => r.same s
theorem RepL.imp (k : ∀ a, (∃ o, H a = some o) → P a → P' a) (t : RepL C P H ds vs) : RepL C P' H ds vs := t.map fun _ _ r => r.imp k
theorem RepL.app (t : RepL C P H ds vs) (u : RepL C P H es us) : RepL C P H (ds ++ es) (vs ++ us) := by
  refine ⟨by simp [t.1, u.1], fun i d v e1 e2 => ?_⟩
  by_cases hi : i < ds.length
  · rw [List.getElem?_append_left hi] at e1
    rw [List.getElem?_append_left (by rw [← t.1]; exact hi)] at e2
    exact t.2 i d v e1 e2
  · rw [List.getElem?_append_right (by omega)] at e1
    rw [List.getElem?_append_right (by rw [← t.1]; omega), ← t.1] at e2
    exact u.2 _ d v e1 e2
theorem RepL.get (t : RepL C P H ds vs) {i : Nat} (h : ds[i]? = some d) : ∃ v, vs[i]? = some v ∧ Rep C P H d v := by
  have hi : i < vs.length := by rw [← t.1]; exact (List.getElem?_eq_some_iff.mp h).1
  exact ⟨vs[i], by simp [hi], t.2 i d _ h (by simp [hi])⟩
theorem RepL.getV (t : RepL C P H ds vs) {i : Nat} (h : vs[i]? = some v) : ∃ d, ds[i]? = some d ∧ Rep C P H d v := by
  have hi : i < ds.length := by rw [t.1]; exact (List.getElem?_eq_some_iff.mp h).1
  exact ⟨ds[i], by simp [hi], t.2 i _ v (by simp [hi]) h⟩
theorem RepL.sub (t : RepL C P H ds vs) (f : List D → List D) (g : List V → List V) (φ : Nat → Nat) (hl : (f ds).length = (g vs).length) (hf : ∀ i, (f ds)[i]? = none ∨ (f ds)[i]? = ds[φ i]?) (hg : ∀ i, (g vs)[i]? = none ∨ (g vs)[i]? = vs[φ i]?) : RepL C P H (f ds) (g vs) := by
  refine ⟨hl, fun i d v e1 e2 => ?_⟩
  rcases hf i with h | h
  · rw [h] at e1; cases e1
  · rcases hg i with h' | h'
    · rw [h'] at e2; cases e2
    · exact t.2 _ d v (h ▸ e1) (h' ▸ e2)
theorem RepL.drop (t : RepL C P H ds vs) (n : Nat) : RepL C P H (ds.drop n) (vs.drop n) := by
  refine ⟨by simp [t.1], fun i d v e1 e2 => t.2 (n + i) d v ?_ ?_⟩
  · rw [List.getElem?_drop] at e1; exact e1
  · rw [List.getElem?_drop] at e2; exact e2
theorem RepL.take (t : RepL C P H ds vs) (n : Nat) : RepL C P H (ds.take n) (vs.take n) := by
  refine ⟨by simp [t.1], fun i d v e1 e2 => ?_⟩
  rw [List.getElem?_take] at e1 e2
  split at e1
  · rename_i h
    rw [if_pos h] at e2
    exact t.2 i d v e1 e2
  · cases e1
theorem RepL.set (t : RepL C P H ds vs) (n : Nat) (h : Rep C P H d v) : RepL C P H (ds.set n d) (vs.set n v) := by
  refine ⟨by simp [t.1], fun i d' v' e1 e2 => ?_⟩
  rw [List.getElem?_set] at e1 e2
  rw [t.1] at e1
  split at e1
  · rename_i q
    subst q
    split at e1
    · rename_i h2
      rw [if_pos rfl, if_pos h2] at e2
      cases e1; cases e2
      exact h
    · cases e1
  · rename_i q
    rw [if_neg q] at e2
    exact t.2 i d' v' e1 e2
theorem RepL.eraseIdx : ∀ {ds : List D} {vs : List V} (t : RepL C P H ds vs) (n : Nat), RepL C P H (ds.eraseIdx n) (vs.eraseIdx n)
  | [], [], t, n => by simpa using t
  | [], _ :: _, t, n => by have := t.1; simp at this
  | _ :: _, [], t, n => by have := t.1; simp at this
  | d :: ds, v :: vs, t, 0 => by simpa using t.tail
  | d :: ds, v :: vs, t, n + 1 => by simpa using RepL.cons t.head (RepL.eraseIdx t.tail n)
theorem RepL.reverse : ∀ {ds : List D} {vs : List V}, RepL C P H ds vs → RepL C P H ds.reverse vs.reverse
  | [], [], t => by simpa using t
  | [], _ :: _, t => by have := t.1; simp at this
  | _ :: _, [], t => by have := t.1; simp at this
  | d :: ds, v :: vs, t => by
    rw [List.reverse_cons, List.reverse_cons]
    exact (RepL.reverse t.tail).app (.cons t.head .nil)
end
end Dv

namespace Dv
open PySem PySem.Spec PyProof.Rows L2

/-! ### the state -/
def Pf (C : Cc) (O : Addr → Prop) : Fl → Addr → Prop
  | .bor, a => ¬ C.B a
  | .arg, a => ¬ C.B a ∧ ¬ O a ∧ (C.A a ∨ C.H0 a = none)
  | .fro, a => ¬ C.B a ∧ ¬ O a ∧ C.H0 a = none
theorem Pf.notB {C : Cc} {O : Addr → Prop} {f : Fl} {a : Addr} (h : Pf C O f a) : ¬ C.B a := by
  cases f
  · exact h
  · exact h.1
  · exact h.1
theorem Pf.inf_l {C : Cc} {O : Addr → Prop} {f g : Fl} {a : Addr} (h : Pf C O f a) : Pf C O (f.inf g) a := by
  cases f <;> cases g <;> simp_all [Pf, Fl.inf]
theorem Pf.inf_r {C : Cc} {O : Addr → Prop} {f g : Fl} {a : Addr} (h : Pf C O g a) : Pf C O (f.inf g) a := by
  cases f <;> cases g <;> simp_all [Pf, Fl.inf]
theorem Pf.notO {C : Cc} {O : Addr → Prop} {f : Fl} {a : Addr} (hf : f ≠ .bor) (h : Pf C O f a) : ¬ O a := by
  cases f with
  | bor => exact absurd rfl hf
  | arg => exact h.2.1
  | fro => exact h.2.1
theorem Pf.anti {C : Cc} {O O' : Addr → Prop} {f : Fl} {a : Addr} (h : Pf C O f a) (k : f ≠ .bor → O' a → O a) : Pf C O' f a := by
  cases f with
  | bor => exact h
  | arg => exact ⟨h.1, fun z => h.2.1 (k (by decide) z), h.2.2⟩
  | fro => exact ⟨h.1, fun z => h.2.1 (k (by decide) z), h.2.2⟩

/-- the own list or dict at a -/
def OwnR (C : Cc) (P : Addr → Prop) (H : Hp) (a : Addr) : D → Prop
  | .lst ds => ∃ vs, H a = some (.lst vs) ∧ RepL C (fun b => P b ∧ b ≠ a) H ds vs
  | .dic kvs => ∃ vs, H a = some (.dK vs) ∧ RepK C (fun b => P b ∧ b ≠ a) H kvs vs
  | _ => False
theorem RepK.keep {C : Cc} {P : Addr → Prop} {H H' : Hp} {kvs : List (Key × D)} {vs : List (Key × V)} (k : Keep P H H') (t : RepK C P H kvs vs) : RepK C P H' kvs vs := ⟨t.1, fun i d v e1 e2 => (t.2 i d v e1 e2).keep k⟩
theorem RepK.imp {C : Cc} {P P' : Addr → Prop} {H : Hp} {kvs : List (Key × D)} {vs : List (Key × V)} (k : ∀ a, (∃ o, H a = some o) → P a → P' a) (t : RepK C P H kvs vs) : RepK C P' H kvs vs := ⟨t.1, fun i d v e1 e2 => (t.2 i d v e1 e2).imp k⟩
theorem Keep.imp {P P' : Addr → Prop} {H H' : Hp} (k : Keep P H H') (h : ∀ a, P' a → P a) : Keep P' H H' := ⟨fun b o p => k.p b o (h b p), k.t, k.f, k.x⟩
theorem OwnR.keep {C : Cc} {P : Addr → Prop} {H H' : Hp} {a : Addr} {d : D} (k : Keep P H H') (ha : ∀ o, H a = some o → H' a = some o) (h : OwnR C P H a d) : OwnR C P H' a d := by
  cases d with
  | lst ds =>
    obtain ⟨vs, e, t⟩ := h
    exact ⟨vs, ha _ e, t.keep (k.imp fun a p => p.1)⟩
  | dic kvs =>
    obtain ⟨vs, e, t⟩ := h
    exact ⟨vs, ha _ e, t.keep (k.imp fun a p => p.1)⟩
  | _ => exact h
theorem OwnR.imp {C : Cc} {P P' : Addr → Prop} {H : Hp} {a : Addr} {d : D} (k : ∀ a, (∃ o, H a = some o) → P a → P' a) (h : OwnR C P H a d) : OwnR C P' H a d := by
  cases d with
  | lst ds =>
    obtain ⟨vs, e, t⟩ := h
    exact ⟨vs, e, t.imp fun a z p => ⟨k a z p.1, p.2⟩⟩
  | dic kvs =>
    obtain ⟨vs, e, t⟩ := h
    exact ⟨vs, e, t.imp fun a z p => ⟨k a z p.1, p.2⟩⟩
  | _ => exact h
theorem OwnR.there {C : Cc} {P : Addr → Prop} {H : Hp} {a : Addr} {d : D} (h : OwnR C P H a d) : ∃ o, H a = some o ∧ ((∃ xs, o = .lst xs) ∨ ∃ kvs, o = .dK kvs) := by
  cases d with
  | lst ds => obtain ⟨vs, e, _⟩ := h; exact ⟨_, e, .inl ⟨_, rfl⟩⟩
  | dic kvs => obtain ⟨vs, e, _⟩ := h; exact ⟨_, e, .inr ⟨_, rfl⟩⟩
  | _ => exact h.elim
/-- the own one, read -/
theorem OwnR.rep {C : Cc} {P P' : Addr → Prop} {H : Hp} {a : Addr} {d : D} (h : OwnR C P H a d) (hp : P' a) (k : ∀ b, P b → P' b) : Rep C P' H d (.ref a) := by
  cases d with
  | lst ds =>
    obtain ⟨vs, e, t⟩ := h
    exact .lst hp e t.1 fun i d v e1 e2 => (t.2 i d v e1 e2).imp fun b _ p => k b p.1
  | dic kvs =>
    obtain ⟨vs, e, t⟩ := h
    exact .dic hp e t.1 fun i d v e1 e2 => (t.2 i d v e1 e2).imp fun b _ p => k b p.1
  | _ => exact h.elim

/-- the fields of an error -/
def Sc : D → V → Prop
  | .int i, v => v = .int i
  | .str x, v => v = .str x
  | _, _ => False
def ArgR (H : Hp) (d : Option Addr) (f : Str) : List D → Prop
  | [] => d = none
  | [z] => ∃ dd v, d = some dd ∧ H dd = some (.xd [(f, v)]) ∧ Sc z v
  | _ => False
theorem ArgR.keep {P : Addr → Prop} {H H' : Hp} (k : Keep P H H') {d : Option Addr} {f : Str} : ∀ {as : List D}, ArgR H d f as → ArgR H' d f as
  | [], h => h
  | [z], ⟨dd, v, e, h, s⟩ => ⟨dd, v, e, k.x _ _ h, s⟩
  | _ :: _ :: _, h => h.elim
def Own (env : En) (σ : L2.St) (a : Addr) : Prop := ∃ (i : Nat) (f : Fl) (d : D), env[i]? = some (.o f d) ∧ σ[i]? = some (some (.ref a))
def SlR (C : Cc) (O : Addr → Prop) (H : Hp) : Sl → Option (Option V) → Prop
  | .e, _ => True
  | .v f d, x => ∃ v, x = some (some v) ∧ f ≠ .bor ∧ Rep C (Pf C O f) H d v
  | .o f d, x => ∃ a, x = some (some (.ref a)) ∧ f ≠ .bor ∧ OwnR C (Pf C O f) H a d
  | .x c f as, x => ∃ a d, x = some (some (.ref a)) ∧ C.Z a d c ∧ ArgR H d f as
structure RelO (C : Cc) (G : Hp) (env : En) (σ : L2.St) (H : Hp) : Prop where
  len : env.length = σ.length
  h0 : Same C.H0 G
  g : Same G H
  scr : ∀ a ns, C.S a ns → SqL C.K G a (ns.map V.int)
  own : ∀ a, Own env σ a → G a = none
  bus : ∀ a, C.B a → (∃ o, H a = some (.lst o)) ∧ G a = none ∧ ¬ Own env σ a
  inj : ∀ (i j : Nat) f d g e a, env[i]? = some (.o f d) → env[j]? = some (.o g e) → σ[i]? = some (some (V.ref a)) → σ[j]? = some (some (V.ref a)) → i = j
  sl : ∀ (i : Nat) s, env[i]? = some s → SlR C (Own env σ) H s σ[i]?
theorem SlR.keep {C : Cc} {O : Addr → Prop} {H H' : Hp} {s : Sl} {x : Option (Option V)} (h : SlR C O H s x) (k : ∀ f, f ≠ .bor → Keep (Pf C O f) H H') (ha : ∀ a o, (match s with | .o _ _ => x = some (some (.ref a)) | _ => False) → H a = some o → H' a = some o) : SlR C O H' s x := by
  cases s with
  | x c f as => obtain ⟨a, d, e, z, r⟩ := h; exact ⟨a, d, e, z, r.keep (k .fro (by decide))⟩
  | e => trivial
  | v f d =>
    obtain ⟨v, e, hf, r⟩ := h
    exact ⟨v, e, hf, r.keep (k f hf)⟩
  | o f d =>
    obtain ⟨a, e, hf, r⟩ := h
    exact ⟨a, e, hf, r.keep (k f hf) fun o => ha a o e⟩
theorem RelO.same {C : Cc} {G : Hp} {env : En} {σ : L2.St} {H H' : Hp} (R : RelO C G env σ H) (s : Same H H') : RelO C G env σ H' :=
  ⟨R.len, R.h0, R.g.trans s, R.scr, R.own, fun a z => ⟨let ⟨o, e⟩ := (R.bus a z).1; ⟨o, s a _ e⟩, (R.bus a z).2⟩, R.inj, fun i z e => (R.sl i z e).keep (fun f _ => Keep.same s) fun a o _ => s a o⟩
theorem RelO.h0H {C : Cc} {G : Hp} {env : En} {σ : L2.St} {H : Hp} (R : RelO C G env σ H) : Same C.H0 H := R.h0.trans R.g
theorem RelO.scrH {C : Cc} {G : Hp} {env : En} {σ : L2.St} {H : Hp} (R : RelO C G env σ H) {a : Addr} {ns : List Int} (h : C.S a ns) : SqL C.K H a (ns.map V.int) := R.g.seq (R.scr a ns h)
theorem RelO.new {C : Cc} {G : Hp} {env : En} {σ : L2.St} {H : Hp} (R : RelO C G env σ H) {p : Addr} (hp : H p = none) : ¬ Own env σ p ∧ C.H0 p = none ∧ G p = none ∧ ¬ C.B p := by
  refine ⟨fun ⟨i, f, d, e1, e2⟩ => ?_, R.h0H.free hp, R.g.free hp, fun z => by obtain ⟨⟨o, e⟩, _⟩ := R.bus p z; rw [hp] at e; cases e⟩
  obtain ⟨a, e, _, r⟩ := R.sl i _ e1
  rw [e2] at e
  cases e
  obtain ⟨o, h, _⟩ := r.there
  rw [hp] at h; cases h
theorem RelO.ownH0 {C : Cc} {G : Hp} {env : En} {σ : L2.St} {H : Hp} (R : RelO C G env σ H) {a : Addr} (h : Own env σ a) : C.H0 a = none := R.h0.free (R.own a h)
/-- with a smaller snapshot -/
theorem RelO.less {C : Cc} {G G' : Hp} {env : En} {σ : L2.St} {H : Hp} (R : RelO C G env σ H) (s : Same G' G) (h0 : Same C.H0 G') (hs : ∀ a ns, C.S a ns → SqL C.K G' a (ns.map V.int)) : RelO C G' env σ H :=
  ⟨R.len, h0, s.trans R.g, hs, fun a h => s.free (R.own a h), fun a z => ⟨(R.bus a z).1, s.free (R.bus a z).2.1, (R.bus a z).2.2⟩, R.inj, R.sl⟩
/-- what doesn't change -/
noncomputable def snap (O : Addr → Prop) (H : Hp) : Hp := fun a => @ite _ (O a) (Classical.propDecidable _) none (H a)
theorem snap_some {O : Addr → Prop} {H : Hp} {a : Addr} {o : HO} : snap O H a = some o ↔ ¬ O a ∧ H a = some o := by
  unfold snap
  by_cases h : O a
  · simp [h]
  · simp [h]
abbrev Hot (C : Cc) (env : En) (σ : L2.St) : Addr → Prop := fun a => Own env σ a ∨ C.B a
theorem RelO.snap {C : Cc} {G : Hp} {env : En} {σ : L2.St} {H : Hp} (R : RelO C G env σ H) : RelO C (snap (Hot C env σ) H) env σ H ∧ Same G (Dv.snap (Hot C env σ) H) := by
  have gs : Same G (Dv.snap (Hot C env σ) H) := fun b o e => snap_some.mpr ⟨fun z => (by
    rcases z with z | z
    · rw [R.own b z] at e; cases e
    · rw [(R.bus b z).2.1] at e; cases e), R.g b o e⟩
  have no : ∀ a, Hot C env σ a → Dv.snap (Hot C env σ) H a = none := fun a h => by
    cases q : Dv.snap (Hot C env σ) H a with
    | none => rfl
    | some o => exact absurd h (snap_some.mp q).1
  exact ⟨⟨R.len, R.h0.trans gs, fun b o e => (snap_some.mp e).2, fun a ns h => gs.seq (R.scr a ns h), fun a h => no a (.inl h), fun a z => ⟨(R.bus a z).1, no a (.inr z), (R.bus a z).2.2⟩, R.inj, R.sl⟩, gs⟩

/-! ### results -/
def RepR (C : Cc) (O : Addr → Prop) (Hb H : Hp) : R → V → Prop
  | .v f d, v => Rep C (Pf C O f) H d v
  | .n f d, v => ∃ a, v = .ref a ∧ (Hb a = none ∧ ¬ C.B a ∧ ¬ O a) ∧ C.H0 a = none ∧ OwnR C (Pf C O f) H a d
  | .b f d, v => ∃ a, v = .ref a ∧ ¬ C.B a ∧ OwnR C (Pf C O f) H a d
theorem RepR.same {C : Cc} {O : Addr → Prop} {Hb H H' : Hp} {r : R} {v : V} (s : Same H H') (h : RepR C O Hb H r v) : RepR C O Hb H' r v := by
  cases r with
  | v f d => exact Rep.same s h
  | n f d =>
    obtain ⟨a, e, h1, h2, h3⟩ := h
    exact ⟨a, e, h1, h2, h3.keep (Keep.same s) fun o => s a o⟩
  | b f d =>
    obtain ⟨a, e, h1, h2⟩ := h
    exact ⟨a, e, h1, h2.keep (Keep.same s) fun o => s a o⟩
theorem RepR.back {C : Cc} {O : Addr → Prop} {Hb Hc H : Hp} {r : R} {v : V} (h : RepR C O Hb H r v) (s : Same Hc Hb) : RepR C O Hc H r v := by
  cases r with
  | v f d => exact h
  | n f d =>
    obtain ⟨a, e, h1, h2, h3⟩ := h
    exact ⟨a, e, ⟨s.free h1.1, h1.2⟩, h2, h3⟩
  | b f d => exact h
/-- a result as an element -/
theorem RepR.el {C : Cc} {O : Addr → Prop} {Hb H : Hp} {r : R} {v : V} (h : RepR C O Hb H r v) : Rep C (Pf C O r.fl) H r.d v := by
  cases r with
  | v f d =>
    have h : Rep C (Pf C O f) H d v := h
    show Rep C (Pf C O (if d.pure = true then .fro else f)) H d v
    by_cases p : d.pure = true
    · rw [if_pos p]; exact h.pure p
    · rw [if_neg p]; exact h
  | n f d =>
    obtain ⟨a, rfl, h1, h2, h3⟩ := h
    show Rep C (Pf C O f) H d (.ref a)
    refine h3.rep ?_ fun b p => p
    cases f
    · exact h1.2.1
    · exact ⟨h1.2.1, h1.2.2, .inr h2⟩
    · exact ⟨h1.2.1, h1.2.2, h2⟩
  | b f d =>
    obtain ⟨a, rfl, h1, h2⟩ := h
    exact h2.rep (show Pf C O .bor a from h1) fun b p => (show Pf C O .bor b from p.notB)
theorem RepR.weak {C : Cc} {O : Addr → Prop} {Hb H : Hp} {r : R} {v : V} (h : RepR C O Hb H r v) {P : Addr → Prop} (k : ∀ a, Pf C O r.fl a → P a) : Rep C P H r.d v := h.el.imp fun a _ p => k a p
theorem RepR.any {C : Cc} {O : Addr → Prop} {Hb H : Hp} {r : R} {v : V} (h : RepR C O Hb H r v) : Rep C (fun _ => True) H r.d v := h.weak fun _ _ => trivial
/-- an exception -/
def RepX (C : Cc) (H : Hp) (x : Exn) (cls : Value) (d : Option Addr) : Prop :=
  (cls = .ref (C.ca x.cls) ∧ x.cls ∈ C.ca.l) ∧ ArgR H d x.fld x.arg

/-! ### judgements -/
abbrev WpE := En → (R → Prop) → (Exn → Prop) → Prop
abbrev WpT := En → (Bool → Prop) → (Exn → Prop) → Prop
def XOk (C : Cc) (W : WX) (σ : L2.St) (H : Hp) (Qx : Exn → Prop) : Prop := ∀ x cls d H', Same H H' → RepX C H' x cls d → Qx x → W cls d σ H'
theorem XOk.same {C : Cc} {W : WX} {σ : L2.St} {H H' : Hp} {Qx : Exn → Prop} (h : XOk C W σ H Qx) (s : Same H H') : XOk C W σ H' Qx := fun x cls d H'' s' => h x cls d H'' (s.trans s')
def DE (C : Cc) (W : WX) (t : TE) (w : WpE) : Prop := ∀ G env σ H (Q : R → Prop) (Qx : Exn → Prop) (Qv : VK), RelO C G env σ H → XOk C W σ H Qx →
  (∀ v H' r, Same H H' → RepR C (Own env σ) H H' r v → Q r → Qv v H') → w env Q Qx → t σ H Qv
def DT (C : Cc) (W : WX) (t : TT) (w : WpT) : Prop := ∀ G env σ H (Q : Bool → Prop) (Qx : Exn → Prop) (Qv : Bool → Hp → Prop), RelO C G env σ H → XOk C W σ H Qx →
  (∀ b H', Same H H' → Q b → Qv b H') → w env Q Qx → t σ H Qv
def DA (C : Cc) (W : WX) (n : Nat) (t : TA) (w : En → (List R → Prop) → (Exn → Prop) → Prop) : Prop := ∀ G env σ H (Q : List R → Prop) (Qx : Exn → Prop) (Qv : List V → Hp → Prop), RelO C G env σ H → XOk C W σ H Qx →
  (∀ vs H' rs, Same H H' → vs.length = n → Paired (RepR C (Own env σ) H H') rs vs → Q rs → Qv vs H') → w env Q Qx → t σ H Qv
def SE (X : Cx) (C : Cc) (W : WX) (e : Expr) (w : WpE) : Prop := ∃ t, PE X e t ∧ DE C W t w
def ST (X : Cx) (C : Cc) (W : WX) (e : Expr) (w : WpT) : Prop := ∃ t, PT X e t ∧ DT C W t w
def SA (X : Cx) (C : Cc) (W : WX) (es : List Expr) (w : En → (List R → Prop) → (Exn → Prop) → Prop) : Prop := ∃ t, PA X es t ∧ DA C W es.length t w
theorem Paired.same {C : Cc} {O : Addr → Prop} {Hb H H' : Hp} (s : Same H H') : ∀ {rs : List R} {vs : List V}, Paired (RepR C O Hb H) rs vs → Paired (RepR C O Hb H') rs vs
  | _, _, .nil => .nil
  | _, _, .cons r t => .cons (r.same s) (Paired.same s t)
theorem Paired.back {C : Cc} {O : Addr → Prop} {Hb Hc H : Hp} (s : Same Hc Hb) : ∀ {rs : List R} {vs : List V}, Paired (RepR C O Hb H) rs vs → Paired (RepR C O Hc H) rs vs
  | _, _, .nil => .nil
  | _, _, .cons r t => .cons (r.back s) (Paired.back s t)
structure Cmp (C : Cc) (W : WX) (G : Hp) (k : Ko) (D : Ends) : Prop where
  nx : ∀ env σ H, RelO C G env σ H → k.nx env → D.nx σ H
  bk : ∀ env σ H, RelO C G env σ H → k.bk env → D.bk σ H
  ct : ∀ env σ H, RelO C G env σ H → k.ct env → D.ct σ H
  rt : ∀ v H r, Same C.H0 H → RepR C (fun _ => False) C.H0 H r v → k.rt r → D.rt v H
  ex : ∀ env σ H x cls d, RelO C G env σ H → RepX C H x cls d → k.ex x env → W cls d σ H
def DS (C : Cc) (W : WX) (t : TS) (w : Ko → En → Prop) : Prop := ∀ G env σ H (k : Ko) (D : Ends), RelO C G env σ H → Cmp C W G k D → w k env → t D σ H
def SS (X : Cx) (C : Cc) (W : WX) (s : Stmt) (w : Ko → En → Prop) : Prop := ∃ t, PS X s t ∧ DS C W t w
def SSs (X : Cx) (C : Cc) (W : WX) (ss : List Stmt) (w : Ko → En → Prop) : Prop := ∃ t, PSs X ss t ∧ DS C W t w
theorem Cmp.xok {C : Cc} {W : WX} {G : Hp} {k : Ko} {D : Ends} {env : En} {σ : L2.St} {H : Hp} (c : Cmp C W G k D) (R : RelO C G env σ H) : XOk C W σ H fun x => k.ex x env :=
  fun x cls d H' s r q => c.ex env σ H' x cls d (R.same s) r q
end Dv

namespace Dv
open PySem PySem.Spec PyProof.Rows L2

/-- what a new place is not -/
def Fr (C : Cc) (O : Addr → Prop) (H : Hp) : Prop := ∀ p, H p = none → (¬ C.B p ∧ ¬ O p) ∧ C.H0 p = none
theorem Fr.same {C : Cc} {O : Addr → Prop} {H H' : Hp} (h : Fr C O H) (s : Same H H') : Fr C O H' := fun p e => h p (s.free e)
theorem RelO.fr {C : Cc} {G : Hp} {env : En} {σ : L2.St} {H : Hp} (R : RelO C G env σ H) : Fr C (Own env σ) H := fun p e => ⟨⟨(R.new e).2.2.2, (R.new e).1⟩, (R.new e).2.1⟩
theorem same_upd {H : Hp} {p : Addr} {o : HO} (h : H p = none) : Same H (upd H p o) := fun b x e => by
  rw [upd_ne (ne_of_none e h)]
  exact e
theorem line_eq : line = sizeLine := by rw [sizeLine_eq]; rfl
section
variable {C : Cc} {W : WX} {O : Addr → Prop} {H Hb : Hp}
/-- a new list of told items -/
theorem newL {f : Fl} {ds : List D} {vs : List V} {p : Addr} (fr : Fr C O H) (hp : H p = none) (t : RepL C (Pf C O f) H ds vs) : RepR C O H (upd H p (.lst vs)) (.n f (.lst ds)) (.ref p) := by
  refine ⟨p, rfl, ⟨hp, (fr p hp).1⟩, (fr p hp).2, vs, upd_same, ?_⟩
  have t2 : RepL C (fun b => Pf C O f b ∧ b ≠ p) H ds vs := t.imp fun a ⟨o, e⟩ q => ⟨q, ne_of_none e hp⟩
  exact t2.same (same_upd hp)
theorem newT {f : Fl} {ds : List D} {vs : List V} {p : Addr} (hp : H p = none) (t : RepL C (Pf C O f) H ds vs) : RepR C O H (upd H p (.tup vs)) (.v f (.tup ds)) (.ref p) :=
  .tup (.inl (.inl upd_same)) t.1 fun i d v e1 e2 => (t.2 i d v e1 e2).same (same_upd hp)
theorem newD {p : Addr} (fr : Fr C O H) (hp : H p = none) : RepR C O H (upd H p (.dK [])) (.n .fro (.dic [])) (.ref p) :=
  ⟨p, rfl, ⟨hp, (fr p hp).1⟩, (fr p hp).2, [], upd_same, rfl, fun i d v e _ => by simp at e⟩
theorem fl_v_np {f : Fl} {d : D} (h : d.pure = false) : (R.v f d).fl = f := by
  show (if d.pure = true then Fl.fro else f) = f
  rw [h]; rfl
/-- a list told, as an element's flag says -/
theorem RepR.lst {r : R} {v : V} {ds : List D} (h : RepR C O Hb H r v) (e : r.d = .lst ds) : ∃ a vs, v = .ref a ∧ H a = some (.lst vs) ∧ RepL C (Pf C O r.fl) H ds vs := by
  have q := h.el
  rw [e] at q
  cases q with
  | lst p h1 hl he => exact ⟨_, _, rfl, h1, hl, he⟩
/-- .. and as its elements' flag says -/
theorem RepR.lstE {r : R} {v : V} {ds : List D} (h : RepR C O Hb H r v) (e : r.d = .lst ds) : ∃ a vs, v = .ref a ∧ ¬ C.B a ∧ H a = some (.lst vs) ∧ RepL C (Pf C O r.efl) H ds vs := by
  cases r with
  | v f d =>
    have q := RepR.el h
    rw [e] at q
    cases q with
    | lst p h1 hl he => exact ⟨_, _, rfl, p.notB, h1, hl, he⟩
  | n f d =>
    obtain ⟨a, rfl, h1, h2, h3⟩ := h
    have e : d = .lst ds := e
    subst e
    obtain ⟨vs, h4, t⟩ := h3
    exact ⟨a, vs, rfl, h1.2.1, h4, t.imp fun _ _ q => q.1⟩
  | b f d =>
    obtain ⟨a, rfl, h1, h3⟩ := h
    have e : d = .lst ds := e
    subst e
    obtain ⟨vs, h4, t⟩ := h3
    exact ⟨a, vs, rfl, h1, h4, t.imp fun _ _ q => q.1⟩
theorem RepR.dicE {r : R} {v : V} {kvs : List (Key × D)} (h : RepR C O Hb H r v) (e : r.d = .dic kvs) : ∃ a vs, v = .ref a ∧ H a = some (.dK vs) ∧ RepK C (Pf C O r.efl) H kvs vs := by
  cases r with
  | v f d =>
    have q := RepR.el h
    rw [e] at q
    cases q with
    | dic p h1 hk he => exact ⟨_, _, rfl, h1, hk, he⟩
  | n f d =>
    obtain ⟨a, rfl, h1, h2, h3⟩ := h
    have e : d = .dic kvs := e
    subst e
    obtain ⟨vs, h4, t⟩ := h3
    exact ⟨a, vs, rfl, h4, t.imp fun _ _ q => q.1⟩
  | b f d =>
    obtain ⟨a, rfl, h1, h3⟩ := h
    have e : d = .dic kvs := e
    subst e
    obtain ⟨vs, h4, t⟩ := h3
    exact ⟨a, vs, rfl, h4, t.imp fun _ _ q => q.1⟩
theorem RepR.tup {r : R} {v : V} {ds : List D} (h : RepR C O Hb H r v) (e : r.d = .tup ds) : ∃ a vs, v = .ref a ∧ SqT C.K H a vs ∧ RepL C (Pf C O r.fl) H ds vs := by
  have q := h.el
  rw [e] at q
  cases q with
  | tup h1 hl he => exact ⟨_, _, rfl, h1, hl, he⟩
theorem RepR.dic {r : R} {v : V} {kvs : List (Key × D)} (h : RepR C O Hb H r v) (e : r.d = .dic kvs) : ∃ a vs, v = .ref a ∧ H a = some (.dK vs) ∧ RepK C (Pf C O r.fl) H kvs vs := by
  have q := h.el
  rw [e] at q
  cases q with
  | dic p h1 hk he => exact ⟨_, _, rfl, h1, hk, he⟩
theorem RepR.int {r : R} {v : V} {i : Int} (h : RepR C O Hb H r v) (e : r.d = .int i) : v = .int i := by
  have q := h.el; rw [e] at q; cases q; rfl
theorem RepR.str {r : R} {v : V} {i : Str} (h : RepR C O Hb H r v) (e : r.d = .str i) : v = .str i := by
  have q := h.el; rw [e] at q; cases q; rfl
theorem RepR.bl {r : R} {v : V} {i : Bool} (h : RepR C O Hb H r v) (e : r.d = .bl i) : v = .bl i := by
  have q := h.el; rw [e] at q; cases q; rfl
theorem RepR.non {r : R} {v : V} (h : RepR C O Hb H r v) (e : r.d = .non) : v = .non := by
  have q := h.el; rw [e] at q; cases q; rfl
theorem RepR.scr {r : R} {v : V} {ns : List Int} (h : RepR C O Hb H r v) (e : r.d = .scr ns) : ∃ a, v = .ref a ∧ C.S a ns := by
  have q := h.el; rw [e] at q; cases q with | scr h1 => exact ⟨_, rfl, h1⟩
theorem repI {f : Fl} {i : Int} : RepR C O Hb H (.v f (.int i)) (.int i) := Rep.int i
theorem repB {f : Fl} {b : Bool} : RepR C O Hb H (.v f (.bl b)) (.bl b) := Rep.bl b
theorem repS {f : Fl} {x : Str} : RepR C O Hb H (.v f (.str x)) (.str x) := Rep.str x
theorem repN {f : Fl} : RepR C O Hb H (.v f .non) .non := Rep.non

/-! ### names and constants -/
theorem de_var {i : Nat} : DE C W (tVar i) (fun env Q _ => varW env i Q) := by
  intro G env σ H Q Qx Qv R _ hq h
  have h : varW env i Q := h
  unfold varW at h
  split at h
  · rename_i f d e
    obtain ⟨v, ev, hf, r⟩ := R.sl i _ e
    exact ⟨v, ev, hq v H (.v f d) (Same.refl H) r h⟩
  · rename_i f d e
    obtain ⟨a, ev, hf, r⟩ := R.sl i _ e
    exact ⟨_, ev, hq _ H (.b f d) (Same.refl H) ⟨a, rfl, fun z => (R.bus a z).2.2 ⟨i, f, d, e, ev⟩, r⟩ h⟩
  · exact h.elim
theorem de_c {v : V} {r : R} (hr : ∀ O Hb H, RepR C O Hb H r v) : DE C W (tC v) (fun _ Q _ => Q r) := by
  intro G env σ H Q Qx Qv R _ hq h
  exact hq v H r (Same.refl H) (hr _ _ _) h

/-! ### two values -/
def OpD (C : Cc) (r : R2) (w : R → R → (R → Prop) → Prop) : Prop := ∀ (O : Addr → Prop) (H : Hp) (x y : R) (vx vy : V) (Q : R → Prop) (Qv : VK), Fr C O H → (∀ a ns, C.S a ns → SqL C.K H a (ns.map V.int)) → ∀ Hb1 Hb2, RepR C O Hb1 H x vx → RepR C O Hb2 H y vy →
  (∀ v H' z, Same H H' → RepR C O H H' z v → Q z → Qv v H') → w x y Q → r vx vy H Qv
theorem de_op {r : R2} {w : R → R → (R → Prop) → Prop} {ta tb : TE} {wa wb : WpE} (hr : OpD C r w) (ha : DE C W ta wa) (hb : DE C W tb wb) :
    DE C W (tOp r ta tb) (fun env Q X => wa env (fun x => wb env (fun y => w x y Q) X) X) := by
  intro G env σ H Q Qx Qv R hx hq h
  refine ha G env σ H _ Qx _ R hx ?_ h
  intro v1 H1 r1 s1 p1 h1
  refine hb G env σ H1 _ Qx _ (R.same s1) (hx.same s1) ?_ h1
  intro v2 H2 r2 s2 p2 h2
  exact hr _ H2 r1 r2 v1 v2 Q Qv (R.fr.same (s1.trans s2)) (fun a ns z => (R.same (s1.trans s2)).scrH z) _ _ (p1.same s2) p2 (fun v H' z s p q => hq v H' z ((s1.trans s2).trans s) (p.back (s1.trans s2)) q) h2

def rOr (r r' : R2) : R2 := fun x y H Q => r x y H Q ∨ r' x y H Q
def rAddS : R2 := fun x y H Q => ∃ i j, x = .str i ∧ y = .str j ∧ i.length + j.length ≤ sizeLine ∧ Q (.str (i ++ j)) H
def powOk (i j : Int) : Prop := (0 ≤ j ∧ j ≤ 1000000 ∧ i.natAbs < 2 ^ 64) ∨ (0 ≤ j ∧ j ≤ 1000 ∧ i.natAbs.log2 < 9000)
theorem bits_pow {a n : Int} (ha : a.natAbs.log2 < 9000) (h0 : 0 ≤ n) (hn : n ≤ 1000) : (Builtin.Int.intBits a : Int) * n ≤ 2 ^ 27 := by
  have hb : Builtin.Int.intBits a ≤ 9000 := by
    unfold Builtin.Int.intBits
    split <;> omega
  have h1 : (Builtin.Int.intBits a : Int) * n ≤ 9000 * n := Int.mul_le_mul_of_nonneg_right (by omega) h0
  omega
theorem op_powG {X : Cx} : OpR X (binaryOp .Pow) (rI powOk fun i j => .int (i ^ j.toNat)) := opI fun _ _ _ _ _ _ _ hc q => by
  rcases hc with hc | hc
  · exact pow_int_small hc.1 hc.2.1 hc.2.2 q
  · exact pow_int hc.1 (bits_pow hc.2.2 hc.1 hc.2.1) q
def mulS (a : Str) (k : Int) : Prop := -(2 ^ 62) ≤ k ∧ k < 2 ^ 62 ∧ a.length * k.toNat ≤ 1000000
def rMulS : R2 := fun x y H Q => ∃ a k, x = .str a ∧ y = .int k ∧ mulS a k ∧ Q (.str (Txt.mul a k)) H
theorem op_mulS {X : Cx} : OpR X (binaryOp .Mult) rMulS := by
  intro pins s σ H x y v u Q I rx ry h
  obtain ⟨a, k, rfl, rfl, ⟨h1, h2, h3⟩, q⟩ := h
  obtain ⟨t, rfl⟩ := rx
  obtain ⟨t2, rfl⟩ := ry
  refine PySem.SB.mul ⟨?_, fun hk _ => ?_, fun hk _ => ?_⟩ fun t' n => ⟨.str (Txt.mul a k), H, I.tok n, ⟨t', rfl⟩, q⟩
  · rw [decide_eq_false (by omega), decide_eq_false (by omega)]; rfl
  · have e : ((a.length * k.toNat : Nat) : Int) = (a.length : Int) * k := by rw [Int.natCast_mul, Int.toNat_of_nonneg (by omega)]
    have h4 : (a.length : Int) * k ≤ 1000000 := by rw [← e]; omega
    have h5 := (Int.le_ediv_iff_mul_le (show (0 : Int) < k by omega)).mpr (show (a.length : Int) * k ≤ 2 ^ 63 - 1 by omega)
    omega
  · have e : (2 : Nat) ^ 24 = 16777216 := by decide
    unfold Builtin.Str.tooLong sizeLine
    simp only [decide_eq_false_iff_not]
    omega
def rB (K : PySem.W.Frag) (op : Bop) : R2 := match op with
  | .add => rOr (rOr (rOr (rI0 fun i j => .int (i + j)) rAddS) rCat) (rCatA K)
  | .sub => rI0 fun i j => .int (i - j)
  | .mul => rOr (rOr (rI mulOk fun i j => .int (i * j)) rMulS) rRep
  | .fdiv => rI (fun _ j => divOk j) fun i j => .int (i.fdiv j)
  | .mod => rI (fun _ j => j ≠ 0) fun i j => .int (i.fmod j)
  | .pow => rI powOk fun i j => .int (i ^ j.toNat)
def bopOf : Bop → Operator
  | .add => .Add
  | .sub => .Sub
  | .mul => .Mult
  | .fdiv => .FloorDiv
  | .mod => .Mod
  | .pow => .Pow
theorem op_fdivG {X : Cx} : OpR X (binaryOp .FloorDiv) (rI (fun _ j => divOk j) fun i j => .int (i.fdiv j)) := opI fun _ _ _ _ _ _ _ hc q => floordiv_int hc.1 q (.inl (PyProof.noPylong_of_log2 hc.2))
theorem mulOk.ok {i j : Int} (h : mulOk i j) : IntMulOk i j := by
  rcases h with h | h | h
  · exact CMul.ok (.inl h)
  · exact CMul.ok (.inr h)
  · exact CMulW.ok h
theorem op_mulG {X : Cx} : OpR X (binaryOp .Mult) (rI mulOk fun i j => .int (i * j)) := opI fun _ _ _ _ _ _ _ hc q => mul_int q hc.ok
theorem op_B {X : Cx} : ∀ op : Bop, OpR X (binaryOp (bopOf op)) (rB X.K op)
  | .add => ((op_add.or op_add_str).or op_cat).or op_catA
  | .sub => op_sub
  | .mul => (op_mulG.or op_mulS).or op_rep
  | .fdiv => op_fdivG
  | .mod => op_modN
  | .pow => op_powG
theorem opd_B (op : Bop) : OpD C (rB C.K op) (binW op) := by
  intro O H x y vx vy Q Qv fr _ Hb1 Hb2 rx ry hq h
  unfold binW at h
  split at h
  · rename_i i j e1 e2
    cases rx.int e1; cases ry.int e2
    exact .inl (.inl (.inl ⟨i, j, rfl, rfl, hq _ H _ (Same.refl H) repI h⟩))
  · rename_i i j e1 e2
    cases rx.int e1; cases ry.int e2
    exact ⟨i, j, rfl, rfl, hq _ H _ (Same.refl H) repI h⟩
  · rename_i i j e1 e2
    cases rx.int e1; cases ry.int e2
    exact .inl (.inl ⟨i, j, rfl, rfl, h.1, hq _ H _ (Same.refl H) repI h.2⟩)
  · rename_i i j e1 e2
    cases rx.int e1; cases ry.int e2
    exact ⟨i, j, rfl, rfl, h.1, hq _ H _ (Same.refl H) repI h.2⟩
  · rename_i i j e1 e2
    cases rx.int e1; cases ry.int e2
    exact ⟨i, j, rfl, rfl, h.1, hq _ H _ (Same.refl H) repI h.2⟩
  · rename_i i j e1 e2
    cases rx.int e1; cases ry.int e2
    exact ⟨i, j, rfl, rfl, h.1, hq _ H _ (Same.refl H) repI h.2⟩
  · rename_i i j e1 e2
    cases rx.str e1; cases ry.str e2
    exact .inl (.inl (.inr ⟨i, j, rfl, rfl, by rw [← line_eq]; exact h.1, hq _ H _ (Same.refl H) repS h.2⟩))
  · rename_i i j e1 e2
    obtain ⟨a, vs, rfl, _, ha, ta⟩ := rx.lstE e1
    obtain ⟨b, us, rfl, _, hb, tb⟩ := ry.lstE e2
    refine .inl (.inr ⟨a, b, vs, us, rfl, rfl, ha, hb, by rw [← ta.1, ← tb.1, ← line_eq]; exact h.1, fun p hp => hq _ _ _ (same_upd hp) (newL fr hp ?_) h.2⟩)
    exact (ta.imp fun a _ q => Pf.inf_l q).app (tb.imp fun a _ q => Pf.inf_r q)
  · rename_i i j e1 e2
    obtain ⟨a, vs, rfl, ha, ta⟩ := rx.tup e1
    obtain ⟨b, us, rfl, hb, tb⟩ := ry.tup e2
    have T : RepL C (Pf C O (x.fl.inf y.fl)) H (i ++ j) (vs ++ us) := (ta.imp fun a _ q => Pf.inf_l q).app (tb.imp fun a _ q => Pf.inf_r q)
    refine .inr ⟨a, b, vs, us, rfl, rfl, ha, hb, by rw [← ta.1, ← tb.1, ← line_eq]; exact h.1, fun z => ?_, fun _ z => ?_, fun _ _ p hp => hq _ _ _ (same_upd hp) (newT hp T) h.2⟩
    · subst z
      exact hq _ H (.v (x.fl.inf y.fl) (.tup (i ++ j))) (Same.refl H) (show Rep C (Pf C O (x.fl.inf y.fl)) H (.tup (i ++ j)) (.ref b) from .tup hb T.1 T.2) h.2
    · subst z
      rw [List.append_nil] at T
      exact hq _ H (.v (x.fl.inf y.fl) (.tup (i ++ j))) (Same.refl H) (show Rep C (Pf C O (x.fl.inf y.fl)) H (.tup (i ++ j)) (.ref a) from .tup ha T.1 T.2) h.2
  · rename_i a k e1 e2
    cases rx.str e1; cases ry.int e2
    exact .inl (.inr ⟨a, k, rfl, rfl, h.1, hq _ H _ (Same.refl H) repS h.2⟩)
  · rename_i ds k e1 e2
    obtain ⟨a, vs, rfl, _, ha, ta⟩ := rx.lstE e1
    cases ry.int e2
    refine .inr ⟨a, k, vs, rfl, rfl, ha, h.1.1, h.1.2.1, by rw [← ta.1, ← line_eq]; exact h.1.2.2, fun p hp => hq _ _ _ (same_upd hp) (newL fr hp ?_) h.2⟩
    induction k.toNat with
    | zero => exact RepL.nil
    | succ n ih =>
      rw [List.replicate_succ, List.replicate_succ, List.flatten_cons, List.flatten_cons]
      exact ta.app ih
  · exact h.elim
end
end Dv

namespace Dv
open PySem PySem.Spec PyProof.Rows L2
section
variable {C : Cc} {W : WX} {O : Addr → Prop} {H : Hp}

/-! ### comparisons -/
def toPy : D → PyData
  | .non => .none
  | .bl b => .bool b
  | .int i => .int i
  | .str x => .str x
  | .lst ds => .list (ds.map toPy)
  | .tup ds => .tuple (ds.map toPy)
  | _ => .none
theorem dpAll_of {K : PySem.W.Frag} {H : Hp} : ∀ {ds : List D} {vs : List V}, ds.length = vs.length → (∀ (i : Nat) d v, ds[i]? = some d → vs[i]? = some v → Dp K H v (toPy d)) → DpAll K H vs (ds.map toPy)
  | [], [], _, _ => .nil
  | [], _ :: _, h, _ => by simp at h
  | _ :: _, [], h, _ => by simp at h
  | d :: ds, v :: vs, h, k => .cons (k 0 d v rfl rfl) (dpAll_of (by simpa using h) fun i d v e1 e2 => k (i + 1) d v (by simpa using e1) (by simpa using e2))
theorem layL_get {n : Nat} : ∀ {ds : List D} {i : Nat} {d : D}, D.layL n ds = true → ds[i]? = some d → D.lay n d = true
  | [], _, _, _, h => by simp at h
  | x :: r, 0, d, h, e => by simp at e h; subst e; exact h.1
  | x :: r, i + 1, d, h, e => by simp at h; exact layL_get h.2 (by simpa using e)
theorem rep_dp {P : Addr → Prop} {d : D} {v : V} (r : Rep C P H d v) : ∀ {n : Nat}, d.lay n = true → Dp C.K H v (toPy d) := by
  induction r with
  | non => intro n _; simp only [toPy]; exact .non
  | bl b => intro n _; simp only [toPy]; exact .bl b
  | int i => intro n _; simp only [toPy]; exact .int i
  | str x => intro n _; simp only [toPy]; exact .str x
  | tup h hl he ih =>
    intro n hn
    cases n with
    | zero => simp [D.lay] at hn
    | succ n =>
      simp only [toPy]
      exact .tup h (dpAll_of hl fun i d v e1 e2 => ih i d v e1 e2 (layL_get (by simpa using hn) e1))
  | lst p h hl he ih =>
    intro n hn
    cases n with
    | zero => simp [D.lay] at hn
    | succ n =>
      simp only [toPy]
      exact .lst (.inl (.inl h)) (dpAll_of hl fun i d v e1 e2 => ih i d v e1 e2 (layL_get (by simpa using hn) e1))
  | dic p h hk he ih => intro n hn; simp [D.lay] at hn
  | scr h => intro n hn; simp [D.lay] at hn
  | ty n => intro n hn; simp [D.lay] at hn
mutual
theorem lay_can : ∀ (d : D) (n : Nat), d.lay n = true → (toPy d).canLay0 = true ∧ (toPy d).depth ≤ n
  | .non, n, _ => by simp [toPy, PyData.canLay0, PyData.depth]
  | .bl b, n, _ => by simp [toPy, PyData.canLay0, PyData.depth]
  | .int i, n, _ => by simp [toPy, PyData.canLay0, PyData.depth]
  | .str x, n, h => by
    simp only [D.lay] at h
    simp only [toPy, PyData.canLay0, PyData.depth]
    exact ⟨h, Nat.zero_le _⟩
  | .tup ds, 0, h => by simp [D.lay] at h
  | .tup ds, n + 1, h => by
    have q := lay_canL ds n (by simpa using h)
    simp only [toPy, PyData.canLay0, PyData.depth]
    exact ⟨q.1, by omega⟩
  | .lst ds, 0, h => by simp [D.lay] at h
  | .lst ds, n + 1, h => by
    have q := lay_canL ds n (by simpa using h)
    simp only [toPy, PyData.canLay0, PyData.depth]
    exact ⟨q.1, by omega⟩
  | .dic _, n, h => by simp [D.lay] at h
  | .scr _, n, h => by simp [D.lay] at h
  | .ty _, n, h => by simp [D.lay] at h
theorem lay_canL : ∀ (ds : List D) (n : Nat), D.layL n ds = true → PyData.canLayAll0 (ds.map toPy) = true ∧ PyData.depthAll (ds.map toPy) ≤ n
  | [], n, _ => by simp [PyData.canLayAll0, PyData.depthAll]
  | d :: ds, n, h => by
    simp at h
    have h1 := lay_can d n h.1
    have h2 := lay_canL ds n h.2
    simp only [List.map_cons, PyData.canLayAll0, PyData.depthAll, Bool.and_eq_true]
    exact ⟨⟨h1.1, h2.1⟩, by omega⟩
end
theorem lay_shaped {d : D} (h : d.lay 60 = true) : SeqAt.shaped (toPy d) = true := by
  obtain ⟨h1, h2⟩ := lay_can d 60 h
  unfold SeqAt.shaped
  rw [h1, Bool.true_and]
  exact decide_eq_true (by omega)
mutual
theorem eqv_toPy : ∀ (d e : D) (n m : Nat), d.lay n = true → e.lay m = true → PyData.eqv (toPy d) (toPy e) = D.eqb d e
  | .non, e, n, m, _, he => by cases e <;> simp_all [toPy, PyData.eqv, D.eqb, D.lay]
  | .bl b, e, n, m, _, he => by cases e <;> simp_all [toPy, PyData.eqv, D.eqb, D.lay]
  | .int i, e, n, m, _, he => by cases e <;> simp_all [toPy, PyData.eqv, D.eqb, D.lay, Bool.beq_eq_decide_eq]
  | .str x, e, n, m, _, he => by cases e <;> simp_all [toPy, PyData.eqv, D.eqb, D.lay, Bool.beq_eq_decide_eq]
  | .tup ds, e, n, m, hd, he => by
    cases e with
    | tup es =>
      cases n with
      | zero => simp [D.lay] at hd
      | succ n =>
        cases m with
        | zero => simp [D.lay] at he
        | succ m =>
          simp only [toPy, PyData.eqv, eqb_tup]
          exact eqv_toPyL ds es n m (by simpa using hd) (by simpa using he)
    | _ => simp_all [toPy, PyData.eqv, D.eqb, D.lay]
  | .lst ds, e, n, m, hd, he => by
    cases e with
    | lst es =>
      cases n with
      | zero => simp [D.lay] at hd
      | succ n =>
        cases m with
        | zero => simp [D.lay] at he
        | succ m =>
          simp only [toPy, PyData.eqv, eqb_lst]
          exact eqv_toPyL ds es n m (by simpa using hd) (by simpa using he)
    | _ => simp_all [toPy, PyData.eqv, D.eqb, D.lay]
  | .dic _, e, n, m, hd, _ => by simp [D.lay] at hd
  | .scr _, e, n, m, hd, _ => by simp [D.lay] at hd
  | .ty _, e, n, m, hd, _ => by simp [D.lay] at hd
theorem eqv_toPyL : ∀ (ds es : List D) (n m : Nat), D.layL n ds = true → D.layL m es = true → PyData.eqvAll (ds.map toPy) (es.map toPy) = D.eqbL ds es
  | [], [], n, m, _, _ => by simp [PyData.eqvAll]
  | [], _ :: _, n, m, _, _ => by simp [PyData.eqvAll]
  | _ :: _, [], n, m, _, _ => by simp [PyData.eqvAll]
  | d :: ds, e :: es, n, m, hd, he => by
    simp at hd he
    simp only [List.map_cons, PyData.eqvAll, eqbL_cons]
    rw [eqv_toPy d e n m hd.1 he.1, eqv_toPyL ds es n m hd.2 he.2]
end
/-- two values to a truth -/
def OpDB (C : Cc) (r : R2) (w : R → R → (Bool → Prop) → Prop) : Prop := ∀ (O : Addr → Prop) (H : Hp) (x y : R) (vx vy : V) (Q : Bool → Prop) (Qv : VK) (Hb1 Hb2 : Hp), RepR C O Hb1 H x vx → RepR C O Hb2 H y vy →
  (∀ b, Q b → Qv (.bl b) H) → w x y Q → r vx vy H Qv
def rDin (neg : Bool) : R2 := fun x y H Q => ∃ a o, y = .ref a ∧ DGet H a x o ∧ Q (.bl (if neg then !o.isSome else o.isSome)) H
def rSgn (neg : Bool) : R2 := fun x y H Q => ∃ (c : Nat) (z : Str), x = .str ⟨#[c]⟩ ∧ y = .str z ∧ Q (.bl (if neg then !decide (c ∈ z.cps.toList) else decide (c ∈ z.cps.toList))) H
def rCm (K : PySem.W.Frag) (op : Cop) : R2 := match op with
  | .eq => rOr rEq (rEqD K)
  | .ne => rOr rNe (rNeD K)
  | .lt => rI0 fun i j => .bl (decide (i < j))
  | .le => rI0 fun i j => .bl (decide (i ≤ j))
  | .gt => rI0 fun i j => .bl (decide (j < i))
  | .ge => rI0 fun i j => .bl (decide (j ≤ i))
  | .isin => rOr (rOr (rIn K false) (rDin false)) (rSgn false)
  | .notin => rOr (rOr (rIn K true) (rDin true)) (rSgn true)
  | .is => rOr (fun x y H Q => y = .non ∧ Q (.bl (decide (x = .non))) H) rIsB
  | .isnt => rOr (fun x y H Q => y = .non ∧ Q (.bl (!decide (x = .non))) H) rNotB
def copOf : Cop → CmpOp
  | .eq => .Eq | .ne => .NotEq | .lt => .Lt | .le => .LtE | .gt => .Gt | .ge => .GtE | .isin => .In | .notin => .NotIn | .is => .Is | .isnt => .IsNot
theorem op_din {X : Cx} (hu : X.A.units + 1 < cLine) : OpR X (compareOp .In) (rDin false) := by
  intro pins s σ H x y v u Q I rx ry h
  obtain ⟨a, o, rfl, g, q⟩ := h
  obtain rfl : u = Value.ref a := ry
  exact d_in hu I g rx fun s3 I3 => ⟨.bl o.isSome, H, I3, rfl, q⟩
theorem op_dnin {X : Cx} (hu : X.A.units + 1 < cLine) : OpR X (compareOp .NotIn) (rDin true) := by
  intro pins s σ H x y v u Q I rx ry h
  obtain ⟨a, o, rfl, g, q⟩ := h
  obtain rfl : u = Value.ref a := ry
  exact d_notIn hu I g rx fun s3 I3 => ⟨.bl (!o.isSome), H, I3, rfl, q⟩
theorem op_C {X : Cx} (hu : X.A.units + 64 < cLine) : ∀ op : Cop, OpR X (compareOp (copOf op)) (rCm X.K op)
  | .eq => op_eq.or (op_eqD hu)
  | .ne => op_ne.or (op_neD hu)
  | .lt => op_lt
  | .le => op_le
  | .gt => op_gt
  | .ge => op_ge
  | .isin => (op_in_seq.or (op_din (by omega))).or op_in_sign
  | .notin => (op_notIn_seq.or (op_dnin (by omega))).or op_notIn_sign
  | .is => op_isN.or op_isBl
  | .isnt => op_notN.or op_notBl
theorem rep_scal {P P' : Addr → Prop} {d e : D} {v u : V} (r : Rep C P H d v) (q : Rep C P' H e u) (h : D.scal d e = true) : scal v u = true ∧ decide (v = u) = D.eqb d e := by
  cases r <;> cases q <;> simp_all [D.scal, scal, D.eqb, Bool.beq_eq_decide_eq]
theorem rep_non {P : Addr → Prop} {d : D} {v : V} (r : Rep C P H d v) : decide (v = .non) = d.isNon := by
  cases r <;> simp [D.isNon]
theorem rep_flat {P : Addr → Prop} {d : D} {v : V} (r : Rep C P H d v) (h : d.flat = true) : flatV v = true := by
  cases r <;> simp_all [D.flat, flatV]
theorem rep_eqV {P P' : Addr → Prop} {d e : D} {v u : V} (r : Rep C P H d v) (q : Rep C P' H e u) (h : d.flat = true) (h' : e.flat = true) : eqV v u = D.eqb d e := by
  cases r <;> cases q <;> simp_all [D.flat, eqV, D.eqb]
theorem repL_flat {P : Addr → Prop} : ∀ {ds : List D} {vs : List V}, RepL C P H ds vs → ds.all D.flat = true → vs.all flatV = true
  | [], [], _, _ => rfl
  | [], _ :: _, t, _ => by have := t.1; simp at this
  | _ :: _, [], t, _ => by have := t.1; simp at this
  | d :: ds, v :: vs, t, h => by
    simp only [List.all_cons, Bool.and_eq_true] at h ⊢
    exact ⟨rep_flat t.head h.1, repL_flat t.tail h.2⟩
theorem repL_inV {P P' : Addr → Prop} {d : D} {v : V} (r : Rep C P' H d v) (hd : d.flat = true) : ∀ {ds : List D} {vs : List V}, RepL C P H ds vs → ds.all D.flat = true → inV v vs = ds.any fun y => D.eqb y d
  | [], [], _, _ => rfl
  | [], _ :: _, t, _ => by have := t.1; simp at this
  | _ :: _, [], t, _ => by have := t.1; simp at this
  | d' :: ds, v' :: vs, t, h => by
    simp only [List.all_cons, Bool.and_eq_true] at h
    have q := repL_inV r hd t.tail h.2
    unfold inV at q ⊢
    rw [List.any_cons, List.any_cons, q, rep_eqV t.head r h.1 hd]
theorem rep_key {P : Addr → Prop} {d : D} {v : V} {k : Key} (r : Rep C P H d v) (h : keyOf d = some k) : v = kV k := by
  cases r <;> simp_all [keyOf]
  · subst h; rfl
  · subst h; rfl
theorem repK_get {P : Addr → Prop} {k : Key} : ∀ {kvs : List (Key × D)} {vs : List (Key × V)}, RepK C P H kvs vs → (∀ d, dget kvs k = some d → ∃ v, valV vs k = some v ∧ Rep C P H d v) ∧ (dget kvs k = none → valV vs k = none)
  | [], [], _ => ⟨fun d h => by simp [dget] at h, fun _ => rfl⟩
  | [], _ :: _, t => by have := t.1; simp at this
  | _ :: _, [], t => by have := t.1; simp at this
  | (k1, d1) :: kvs, (k2, v2) :: vs, t => by
    have ek : k1 = k2 := by have := t.1; simp at this; exact this.1
    subst ek
    have t2 : RepK C P H kvs vs := ⟨by have := t.1; simp at this; exact this, fun i d v e1 e2 => t.2 (i + 1) d v (by simpa using e1) (by simpa using e2)⟩
    by_cases hk : k1 = k
    · subst hk
      refine ⟨fun d h => ?_, fun h => ?_⟩
      · simp [dget] at h
        subst h
        exact ⟨v2, valV_pos rfl, t.2 0 _ _ rfl rfl⟩
      · simp [dget] at h
    · have e1 : dget ((k1, d1) :: kvs) k = dget kvs k := by simp [dget, List.find?_cons, hk]
      have e2 : valV ((k1, v2) :: vs) k = valV vs k := valV_neg hk
      rw [e1, e2]
      exact repK_get t2
theorem repK_some {P : Addr → Prop} {k : Key} {kvs : List (Key × D)} {vs : List (Key × V)} (t : RepK C P H kvs vs) : (valV vs k).isSome = (dget kvs k).isSome := by
  cases e : dget kvs k with
  | none => rw [(repK_get t).2 e]; rfl
  | some d => obtain ⟨v, h, _⟩ := (repK_get t).1 d e; rw [h]; rfl
theorem opd_C (op : Cop) : OpDB C (rCm C.K op) (cmpW op) := by
  intro O H x y vx vy Q Qv Hb1 Hb2 rx ry hq h
  have inS : ∀ neg : Bool, (∀ ds, (y.d = .lst ds ∨ y.d = .tup ds) → x.d.flat = true → ds.all D.flat = true → Q (if neg then !ds.any fun y => D.eqb y x.d else ds.any fun y => D.eqb y x.d) → rIn C.K neg vx vy H Qv) := by
    intro neg ds hy hf ha hQ
    have main : ∀ a vs, vy = .ref a → (SqL C.K H a vs ∨ SqT C.K H a vs) → RepL C (Pf C O y.fl) H ds vs → rIn C.K neg vx vy H Qv := fun a vs e1 e2 t =>
      ⟨a, vs, e1, e2, rep_flat rx.el hf, repL_flat t ha, by rw [repL_inV rx.el hf t ha]; exact hq _ hQ⟩
    rcases hy with hy | hy
    · obtain ⟨a, vs, e, h1, t⟩ := ry.lst hy
      exact main a vs e (.inl (.inl (.inl h1))) t
    · obtain ⟨a, vs, e, h1, t⟩ := ry.tup hy
      exact main a vs e (.inr h1) t
  have inD : ∀ (neg : Bool) kvs k, y.d = .dic kvs → keyOf x.d = some k → Q (if neg then !(dget kvs k).isSome else (dget kvs k).isSome) → rDin neg vx vy H Qv := by
    intro neg kvs k hy hk hQ
    obtain ⟨a, vs, e, h1, t⟩ := ry.dic hy
    refine ⟨a, _, e, .inl ⟨vs, k, .inl h1, rep_key rx.el hk, rfl⟩, ?_⟩
    rw [repK_some t]
    exact hq _ hQ
  cases op with
  | eq =>
    obtain ⟨h1, h2⟩ := h
    unfold cmpOk at h1
    rw [Bool.or_eq_true, Bool.and_eq_true] at h1
    rcases h1 with h1 | ⟨h1, h3⟩
    · obtain ⟨a, b⟩ := rep_scal rx.el ry.el h1
      exact .inl ⟨a, by rw [b]; exact hq _ h2⟩
    · exact .inr ⟨_, _, rep_dp rx.el h1, rep_dp ry.el h3, lay_shaped h1, lay_shaped h3, by rw [eqv_toPy _ _ _ _ h1 h3]; exact hq _ h2⟩
  | ne =>
    obtain ⟨h1, h2⟩ := h
    unfold cmpOk at h1
    rw [Bool.or_eq_true, Bool.and_eq_true] at h1
    rcases h1 with h1 | ⟨h1, h3⟩
    · obtain ⟨a, b⟩ := rep_scal rx.el ry.el h1
      exact .inl ⟨a, by rw [b]; exact hq _ h2⟩
    · exact .inr ⟨_, _, rep_dp rx.el h1, rep_dp ry.el h3, lay_shaped h1, lay_shaped h3, by rw [eqv_toPy _ _ _ _ h1 h3]; exact hq _ h2⟩
  | lt =>
    simp only [cmpW] at h
    split at h
    · rename_i i j e1 e2
      exact ⟨i, j, rx.int e1, ry.int e2, hq _ h⟩
    · exact h.elim
  | le =>
    simp only [cmpW] at h
    split at h
    · rename_i i j e1 e2
      exact ⟨i, j, rx.int e1, ry.int e2, hq _ h⟩
    · exact h.elim
  | gt =>
    simp only [cmpW] at h
    split at h
    · rename_i i j e1 e2
      exact ⟨i, j, rx.int e1, ry.int e2, hq _ h⟩
    · exact h.elim
  | ge =>
    simp only [cmpW] at h
    split at h
    · rename_i i j e1 e2
      exact ⟨i, j, rx.int e1, ry.int e2, hq _ h⟩
    · exact h.elim
  | isin =>
    simp only [cmpW] at h
    split at h
    · rename_i ds e
      exact .inl (.inl (inS false ds (.inl e) h.1 h.2.1 h.2.2))
    · rename_i ds e
      exact .inl (.inl (inS false ds (.inr e) h.1 h.2.1 h.2.2))
    · rename_i kvs e
      split at h
      · rename_i k ek
        exact .inl (.inr (inD false kvs k e ek h))
      · exact h.elim
    · rename_i z e
      split at h
      · rename_i s es
        split at h
        · rename_i c ec
          have e3 : s = ⟨#[c]⟩ := by
            have : s.cps = #[c] := by rw [← Array.toArray_toList (xs := s.cps), ec]
            cases s; simp only at this; rw [this]
          refine .inr ⟨c, z, ?_, ry.str e, hq _ h⟩
          rw [rx.str es, e3]
        · exact h.elim
      · exact h.elim
    · exact h.elim
  | notin =>
    simp only [cmpW] at h
    split at h
    · rename_i ds e
      exact .inl (.inl (inS true ds (.inl e) h.1 h.2.1 h.2.2))
    · rename_i ds e
      exact .inl (.inl (inS true ds (.inr e) h.1 h.2.1 h.2.2))
    · rename_i kvs e
      split at h
      · rename_i k ek
        exact .inl (.inr (inD true kvs k e ek h))
      · exact h.elim
    · rename_i z e
      split at h
      · rename_i s es
        split at h
        · rename_i c ec
          have e3 : s = ⟨#[c]⟩ := by
            have : s.cps = #[c] := by rw [← Array.toArray_toList (xs := s.cps), ec]
            cases s; simp only at this; rw [this]
          refine .inr ⟨c, z, ?_, ry.str e, hq _ h⟩
          rw [rx.str es, e3]
        · exact h.elim
      · exact h.elim
    · exact h.elim
  | is =>
    simp only [cmpW] at h
    split at h
    · rename_i e
      refine .inl ⟨ry.non e, ?_⟩
      rw [rep_non rx.el]
      exact hq _ h
    · rename_i b e
      split at h
      · rename_i a e2
        exact .inr ⟨a, b, rx.bl e2, ry.bl e, hq _ h⟩
      · exact h.elim
    · exact h.elim
  | isnt =>
    simp only [cmpW] at h
    split at h
    · rename_i e
      refine .inl ⟨ry.non e, ?_⟩
      rw [rep_non rx.el]
      exact hq _ h
    · rename_i b e
      split at h
      · rename_i a e2
        exact .inr ⟨a, b, rx.bl e2, ry.bl e, hq _ h⟩
      · exact h.elim
    · exact h.elim
end
end Dv

namespace Dv
open PySem PySem.Spec PyProof.Rows L2
section
variable {C : Cc} {W : WX} {O : Addr → Prop} {H Hb : Hp}
theorem ixN_eq : @Dv.ixN = @L2.ixN := rfl
theorem atI_list {α : Type} {xs : List α} {i : Int} {d : α} (h : Dv.atI xs i = some d) : ∃ j, L2.ixN xs.length i = some j ∧ xs[j]? = some d := by
  unfold Dv.atI at h
  rw [Option.bind_eq_some_iff] at h
  obtain ⟨j, e, e2⟩ := h
  exact ⟨j, e, e2⟩
theorem atI_rep {P : Addr → Prop} {ds : List D} {vs : List V} {i : Int} {d : D} (t : RepL C P H ds vs) (h : Dv.atI ds i = some d) : ∃ v, L2.atI vs i = some v ∧ Rep C P H d v := by
  obtain ⟨j, e, e2⟩ := atI_list h
  obtain ⟨v, e3, r⟩ := t.get e2
  refine ⟨v, ?_, r⟩
  unfold L2.atI
  rw [← t.1, e]
  exact e3
/-! ### subscripts -/
def rIxD (K : PySem.W.Frag) : R2 := rOr (rOr (rOr (rIxL K) (rIxT K)) fun x y H Q => ∃ a v, x = .ref a ∧ DGet H a y (some v) ∧ Q v H) rIxS
theorem ix_dict {X : Cx} (hu : X.A.units + 1 < cLine) : IxR X (fun x y H Q => ∃ a v, x = .ref a ∧ DGet H a y (some v) ∧ Q v H) := by
  intro value slice pins s σ H x y v u Q I rx ry h hs
  obtain ⟨a, w, rfl, g, q⟩ := h
  obtain rfl : v = Value.ref a := rx
  refine tail_any (dict_typeIs I g) PySem.F.slot_dict_getitem.lookup ?_ hs
  exact d_getItem hu I g ry fun w' s3 I3 rw' => ⟨w, H, I3, rw', q⟩
theorem ix_D {X : Cx} (hu : X.A.units + 1 < cLine) : IxR X (rIxD X.K) := ((ix_list.or ix_tup).or (ix_dict hu)).or ix_str
theorem opd_ix : OpD C (rIxD C.K) idxW := by
  intro O H x y vx vy Q Qv fr hS Hb1 Hb2 rx ry hq h
  have pp : ∀ {f : Fl} {d : D} {v : V}, Rep C (Pf C O f) H d v → RepR C O H H (.v f d) v := fun r => r
  unfold idxW at h
  split at h
  · rename_i ds k e1 e2
    split at h
    · rename_i d e3
      obtain ⟨a, vs, rfl, _, h1, t⟩ := rx.lstE e1
      obtain ⟨v, e4, r⟩ := atI_rep t e3
      exact .inl (.inl (.inl ⟨a, vs, k, v, rfl, ry.int e2, .inl (.inl h1), e4, hq v H _ (Same.refl H) (pp r) h⟩))
    · exact h.elim
  · rename_i ds k e1 e2
    split at h
    · rename_i d e3
      obtain ⟨a, vs, rfl, h1, t⟩ := rx.tup e1
      obtain ⟨v, e4, r⟩ := atI_rep t e3
      exact .inl (.inl (.inr ⟨a, vs, k, v, rfl, ry.int e2, h1, e4, hq v H _ (Same.refl H) (pp r) h⟩))
    · exact h.elim
  · rename_i ns k e1 e2
    split at h
    · rename_i n e3
      obtain ⟨a, rfl, hs⟩ := rx.scr e1
      obtain ⟨j, e4, e5⟩ := atI_list e3
      refine .inl (.inl (.inl ⟨a, ns.map V.int, k, .int n, rfl, ry.int e2, hS a ns hs, ?_, hq _ H _ (Same.refl H) repI h⟩))
      unfold L2.atI
      rw [List.length_map, e4]
      show (ns.map V.int)[j]? = _
      rw [List.getElem?_map, e5]
      rfl
    · exact h.elim
  · rename_i kvs e1 _ _
    split at h
    · rename_i k ek
      split at h
      · rename_i d ed
        obtain ⟨a, vs, rfl, h1, t⟩ := rx.dicE (by assumption)
        obtain ⟨v, e3, r⟩ := (repK_get t).1 d ed
        refine .inl (.inr ⟨a, v, rfl, .inl ⟨vs, k, .inl h1, rep_key ry.el ek, e3.symm⟩, hq v H _ (Same.refl H) (pp r) h⟩)
      · exact h.elim
    · exact h.elim
  · rename_i z k e1 e2
    obtain ⟨hl, h⟩ := h
    split at h
    · rename_i c ec
      exact .inr ⟨z, k, c, rx.str e1, ry.int e2, by rw [← line_eq]; exact hl, ec, hq _ H _ (Same.refl H) repS h⟩
    · exact h.elim
  · exact h.elim
/-! ### slices -/
def DO (C : Cc) (W : WX) (t : TO) (w : En → (Option R → Prop) → (Exn → Prop) → Prop) : Prop := ∀ G env σ H (Q : Option R → Prop) (Qx : Exn → Prop) (Qv : Option Int → Hp → Prop), RelO C G env σ H → XOk C W σ H Qx →
  (∀ r, Q r → optI r ≠ none) → (∀ o H' r, Same H H' → Q r → optI r = some o → Qv o H') → w env Q Qx → t σ H Qv
theorem do_none : DO C W tNoPart (fun env Q X => wpEo .none env Q X) := by
  intro G env σ H Q Qx Qv R hx _ hq h
  exact hq none H none (Same.refl H) h rfl
theorem do_some {te : TE} {e : E} (he : DE C W te (wpE e)) : DO C W (tPart te) (fun env Q X => wpEo (.some e) env Q X) := by
  intro G env σ H Q Qx Qv R hx ho hq h
  have h : wpE e env (fun r => Q (some r)) Qx := h
  refine he G env σ H _ Qx _ R hx ?_ h
  intro v H' r s p q
  have q1 := ho _ q
  cases e1 : optI (some r) with
  | none => exact absurd e1 q1
  | some l =>
    unfold optI at e1
    dsimp only at e1
    split at e1
    · rename_i i e
      cases e1
      exact ⟨i, p.int e, hq (some i) H' (some r) s q (by unfold optI; dsimp only; rw [e])⟩
    · cases e1
theorem repL_cut {P : Addr → Prop} {ds : List D} {vs : List V} (t : RepL C P H ds vs) (lo hi : Option Int) : RepL C P H (cut ds lo hi) (cutV vs lo hi) := by
  unfold cut cutV
  have e : @Dv.sIx = @HT.sIx := rfl
  rw [e, ← t.1]
  exact (t.drop _).take _
def rSl (K : PySem.W.Frag) : V → Option Int → Option Int → Hp → VK → Prop := fun x lo hi H Q => rSlL K x lo hi H Q ∨ (rSlA K x lo hi H Q ∨ rSlS x lo hi H Q)
theorem sl_D {X : Cx} : L2.SlR X (rSl X.K) := sl_list.or (sl_tupA.or sl_str)
theorem cutStr_eq (z : Str) (lo hi : Option Int) : cutStr z lo hi = cutS z lo hi := by
  unfold cutStr cutS cut
  have e : @Dv.sIx = @HT.sIx := rfl
  have e2 : z.cps.toList.length = z.length := by simp [Str.length]
  rw [e, e2]
theorem sliW_opt {x : R} {l h : Option R} {Q : R → Prop} (q : sliW x l h Q) : optI l ≠ none ∧ optI h ≠ none := by
  unfold sliW at q
  split at q
  · rename_i a b e1 e2
    rw [e1, e2]
    exact ⟨by simp, by simp⟩
  · exact q.elim
theorem de_sli {ta : TE} {wa : WpE} {tl th : TO} {wl wh : En → (Option R → Prop) → (Exn → Prop) → Prop} (ha : DE C W ta wa) (hl : DO C W tl wl) (hh : DO C W th wh) :
    DE C W (tSl (rSl C.K) ta tl th) (fun env Q X => wa env (fun x => wl env (fun l => optI l ≠ none ∧ wh env (fun h => sliW x l h Q) X) X) X) := by
  intro G env σ H Q Qx Qv R hx hq h
  refine ha G env σ H _ Qx _ R hx ?_ h
  intro v1 H1 r1 s1 p1 h1
  refine hl G env σ H1 _ Qx _ (R.same s1) (hx.same s1) (fun r z => z.1) ?_ h1
  intro l2 H2 r2 s2 q2 e2
  refine hh G env σ H2 _ Qx _ (R.same (s1.trans s2)) (hx.same (s1.trans s2)) (fun r z => (sliW_opt z).2) ?_ q2.2
  intro l3 H3 r3 s3 q3 e4
  have q3 : sliW r1 r2 r3 Q := q3
  have s13 : Same H1 H3 := s2.trans s3
  have fr := R.fr.same (s1.trans s13)
  have p3 := p1.same s13
  unfold sliW at q3
  rw [e2, e4] at q3
  dsimp only at q3
  split at q3
  · rename_i ds e
    obtain ⟨a, vs, rfl, _, h1, t⟩ := p3.lstE e
    exact .inl ⟨a, vs, rfl, .inl (.inl h1), fun p hp => hq _ _ _ ((s1.trans s13).trans (same_upd hp)) ((newL fr hp (repL_cut t _ _)).back (s1.trans s13)) q3⟩
  · rename_i ds e
    obtain ⟨a, vs, rfl, h1, t⟩ := p3.tup e
    refine .inr (.inl ⟨a, vs, rfl, h1, fun z => ?_, fun _ p hp => hq _ _ _ ((s1.trans s13).trans (same_upd hp)) ((newT hp (repL_cut t _ _)).back (s1.trans s13)) q3⟩)
    have ec : cutV vs l2 l3 = vs := by
      show (vs.drop _).take _ = vs
      rw [z.1, z.2]
      simp
    have T := repL_cut t l2 l3
    rw [ec] at T
    exact hq _ _ (.v r1.fl (.tup (cut ds l2 l3))) (s1.trans s13) (show Rep C (Pf C (Own env σ) r1.fl) H3 (.tup (cut ds l2 l3)) (.ref a) from .tup h1 T.1 T.2) q3
  · rename_i z e
    refine .inr (.inr ⟨z, p3.str e, by rw [← line_eq]; exact q3.1, ?_⟩)
    rw [← cutStr_eq]
    exact hq _ _ _ (s1.trans s13) repS q3.2
  · exact q3.elim
theorem de_rev {ta : TE} {wa : WpE} (ha : DE C W ta wa) : DE C W (tRevL C.K ta) (fun env Q X => wa env (fun x => revW x Q) X) := by
  intro G env σ H Q Qx Qv R hx hq h
  refine ha G env σ H _ Qx _ R hx ?_ h
  intro v1 H1 r1 s1 p1 h1
  unfold revW at h1
  split at h1
  · rename_i ds e
    obtain ⟨a, vs, rfl, _, h2, t⟩ := p1.lstE e
    exact ⟨a, vs, rfl, .inl (.inl h2), fun p hp => hq _ _ _ (s1.trans (same_upd hp)) ((newL (R.fr.same s1) hp t.reverse).back s1) h1⟩
  · exact h1.elim
/-! ### truths -/
theorem tru_of {r : R} {v : V} {b : Bool} {Q : Bool → Prop} (p : RepR C O Hb H r v) (h : truthW r Q) : ∃ k, TruV C.K v H k ∧ Q k := by
  unfold truthW at h
  split at h
  · rename_i b e; rw [p.bl e]; exact ⟨b, rfl, h⟩
  · rename_i i e; rw [p.int e]; exact ⟨_, rfl, h⟩
  · rename_i e; rw [p.non e]; exact ⟨_, rfl, h⟩
  · rename_i ds e
    obtain ⟨a, vs, rfl, h1, t⟩ := p.lst e
    refine ⟨_, .inl ⟨vs, .inl (.inl h1), rfl⟩, ?_⟩
    have : vs.isEmpty = ds.isEmpty := by
      have := t.1
      cases vs <;> cases ds <;> simp_all
    rw [this]; exact h
  · rename_i ds e
    obtain ⟨a, vs, rfl, h1, t⟩ := p.tup e
    refine ⟨_, .inr (.inl ⟨vs, h1, rfl⟩), ?_⟩
    have : vs.isEmpty = ds.isEmpty := by
      have := t.1
      cases vs <;> cases ds <;> simp_all
    rw [this]; exact h
  · exact h.elim
theorem dt_tru {ta : TE} {wa : WpE} (ha : DE C W ta wa) : DT C W (fun σ H Q => ta σ H fun x H' => ∃ k, TruV C.K x H' k ∧ Q k H') (fun env Q X => wa env (fun x => truthW x Q) X) := by
  intro G env σ H Q Qx Qv R hx hq h
  refine ha G env σ H _ Qx _ R hx ?_ h
  intro v1 H1 r1 s1 p1 h1
  obtain ⟨k, z, q⟩ := tru_of (b := true) p1 h1
  exact ⟨k, z, hq k H1 s1 q⟩
theorem dt_cmp {op : Cop} {ta tb : TE} {wa wb : WpE} (ha : DE C W ta wa) (hb : DE C W tb wb) : DT C W (tTest (tOp (rCm C.K op) ta tb)) (fun env Q X => wa env (fun x => wb env (fun y => cmpW op x y Q) X) X) := by
  intro G env σ H Q Qx Qv R hx hq h
  refine ha G env σ H _ Qx _ R hx ?_ h
  intro v1 H1 r1 s1 p1 h1
  refine hb G env σ H1 _ Qx _ (R.same s1) (hx.same s1) ?_ h1
  intro v2 H2 r2 s2 p2 h2
  exact opd_C op _ H2 r1 r2 v1 v2 Q _ _ _ (p1.same s2) p2 (fun b q => ⟨b, rfl, hq b H2 (s1.trans s2) q⟩) h2
theorem de_cmp {op : Cop} {ta tb : TE} {wa wb : WpE} (ha : DE C W ta wa) (hb : DE C W tb wb) : DE C W (tOp (rCm C.K op) ta tb) (fun env Q X => wa env (fun x => wb env (fun y => cmpW op x y fun c => Q (.v .fro (.bl c))) X) X) := by
  intro G env σ H Q Qx Qv R hx hq h
  refine ha G env σ H _ Qx _ R hx ?_ h
  intro v1 H1 r1 s1 p1 h1
  refine hb G env σ H1 _ Qx _ (R.same s1) (hx.same s1) ?_ h1
  intro v2 H2 r2 s2 p2 h2
  exact opd_C op _ H2 r1 r2 v1 v2 (fun c => Q (.v .fro (.bl c))) _ _ _ (p1.same s2) p2 (fun b q => hq _ H2 _ (s1.trans s2) repB q) h2
theorem dt_chain {o p : Cop} {ta tb tc : TE} {wa wb wc : WpE} (ha : DE C W ta wa) (hb : DE C W tb wb) (hc : DE C W tc wc) : DT C W (tB (tChain (rCm C.K o) (rCm C.K p) ta tb tc)) (fun env Q X => wa env (fun x => wb env (fun y => cmpW o x y fun k => if k = true then wc env (fun z => cmpW p y z Q) X else Q false) X) X) := by
  intro G env σ H Q Qx Qv R hx hq h
  refine ha G env σ H _ Qx _ R hx ?_ h
  intro v1 H1 r1 s1 p1 h1
  refine hb G env σ H1 _ Qx _ (R.same s1) (hx.same s1) ?_ h1
  intro v2 H2 r2 s2 p2 h2
  refine opd_C o _ H2 r1 r2 v1 v2 _ _ _ _ (p1.same s2) p2 (fun b q => ⟨b, rfl, ?_⟩) h2
  cases b with
  | false =>
    rw [if_neg Bool.false_ne_true]
    rw [if_neg Bool.false_ne_true] at q
    exact ⟨false, rfl, hq false H2 (s1.trans s2) q⟩
  | true =>
    rw [if_pos rfl]
    rw [if_pos rfl] at q
    refine hc G env σ H2 _ Qx _ (R.same (s1.trans s2)) (hx.same (s1.trans s2)) ?_ q
    intro v3 H3 r3 s3 p3 h3
    exact opd_C p _ H3 r2 r3 v2 v3 Q _ _ _ (p2.same s3) p3 (fun b q => ⟨b, rfl, hq b H3 ((s1.trans s2).trans s3) q⟩) h3
theorem de_chain {o p : Cop} {ta tb tc : TE} {wa wb wc : WpE} (ha : DE C W ta wa) (hb : DE C W tb wb) (hc : DE C W tc wc) : DE C W (tChain (rCm C.K o) (rCm C.K p) ta tb tc) (fun env Q X => wa env (fun x => wb env (fun y => cmpW o x y fun k => if k = true then wc env (fun z => cmpW p y z fun c => Q (.v .fro (.bl c))) X else Q (.v .fro (.bl false))) X) X) := by
  intro G env σ H Q Qx Qv R hx hq h
  refine ha G env σ H _ Qx _ R hx ?_ h
  intro v1 H1 r1 s1 p1 h1
  refine hb G env σ H1 _ Qx _ (R.same s1) (hx.same s1) ?_ h1
  intro v2 H2 r2 s2 p2 h2
  refine opd_C o _ H2 r1 r2 v1 v2 _ _ _ _ (p1.same s2) p2 (fun b q => ⟨b, rfl, ?_⟩) h2
  cases b with
  | false =>
    rw [if_neg Bool.false_ne_true]
    rw [if_neg Bool.false_ne_true] at q
    exact hq _ H2 _ (s1.trans s2) repB q
  | true =>
    rw [if_pos rfl]
    rw [if_pos rfl] at q
    refine hc G env σ H2 _ Qx _ (R.same (s1.trans s2)) (hx.same (s1.trans s2)) ?_ q
    intro v3 H3 r3 s3 p3 h3
    exact opd_C p _ H3 r2 r3 v2 v3 (fun c => Q (.v .fro (.bl c))) _ _ _ (p2.same s3) p3 (fun b q => hq _ H3 _ ((s1.trans s2).trans s3) repB q) h3
theorem dt_and {ta tb : TT} {wa wb : WpT} (ha : DT C W ta wa) (hb : DT C W tb wb) : DT C W (tAnd ta tb) (fun env Q X => wa env (fun k => if k = true then wb env Q X else Q false) X) := by
  intro G env σ H Q Qx Qv R hx hq h
  refine ha G env σ H _ Qx _ R hx ?_ h
  intro b H1 s1 h1
  cases b with
  | true => exact hb G env σ H1 Q Qx Qv (R.same s1) (hx.same s1) (fun b H2 s2 q => hq b H2 (s1.trans s2) q) (by simpa using h1)
  | false => exact hq false H1 s1 (by simpa using h1)
theorem dt_or {ta tb : TT} {wa wb : WpT} (ha : DT C W ta wa) (hb : DT C W tb wb) : DT C W (tOr ta tb) (fun env Q X => wa env (fun k => if k = true then Q true else wb env Q X) X) := by
  intro G env σ H Q Qx Qv R hx hq h
  refine ha G env σ H _ Qx _ R hx ?_ h
  intro b H1 s1 h1
  cases b with
  | false => exact hb G env σ H1 Q Qx Qv (R.same s1) (hx.same s1) (fun b H2 s2 q => hq b H2 (s1.trans s2) q) (by simpa using h1)
  | true => exact hq true H1 s1 (by simpa using h1)
theorem dt_not {ta : TT} {wa : WpT} (ha : DT C W ta wa) : DT C W (tNot ta) (fun env Q X => wa env (fun b => Q (!b)) X) := by
  intro G env σ H Q Qx Qv R hx hq h
  refine ha G env σ H _ Qx _ R hx ?_ h
  intro b H1 s1 h1
  exact hq _ H1 s1 h1
theorem de_and {ta tb : TE} {wa wb : WpE} (ha : DE C W ta wa) (hb : DE C W tb wb) : DE C W (tAndV ta tb) (fun env Q X => wa env (fun x => match x.d with | .bl true => wb env Q X | .bl false => Q (.v .fro (.bl false)) | _ => False) X) := by
  intro G env σ H Q Qx Qv R hx hq h
  refine ha G env σ H _ Qx _ R hx ?_ h
  intro v1 H1 r1 s1 p1 h1
  split at h1
  · rename_i e
    refine ⟨true, p1.bl e, ?_⟩
    rw [if_pos rfl]
    exact hb G env σ H1 Q Qx Qv (R.same s1) (hx.same s1) (fun v H2 r s2 p q => hq v H2 r (s1.trans s2) (p.back s1) q) h1
  · rename_i e
    refine ⟨false, p1.bl e, ?_⟩
    rw [if_neg Bool.false_ne_true]
    exact hq _ H1 _ s1 repB h1
  · exact h1.elim
theorem de_or {ta tb : TE} {wa wb : WpE} (ha : DE C W ta wa) (hb : DE C W tb wb) : DE C W (tOrV ta tb) (fun env Q X => wa env (fun x => match x.d with | .bl false => wb env Q X | .bl true => Q (.v .fro (.bl true)) | _ => False) X) := by
  intro G env σ H Q Qx Qv R hx hq h
  refine ha G env σ H _ Qx _ R hx ?_ h
  intro v1 H1 r1 s1 p1 h1
  split at h1
  · rename_i e
    refine ⟨false, p1.bl e, ?_⟩
    rw [if_neg Bool.false_ne_true]
    exact hb G env σ H1 Q Qx Qv (R.same s1) (hx.same s1) (fun v H2 r s2 p q => hq v H2 r (s1.trans s2) (p.back s1) q) h1
  · rename_i e
    refine ⟨true, p1.bl e, ?_⟩
    rw [if_pos rfl]
    exact hq _ H1 _ s1 repB h1
  · exact h1.elim
theorem de_ite {tc : TT} {wc : WpT} {ta tb : TE} {wa wb : WpE} (hc : DT C W tc wc) (ha : DE C W ta wa) (hb : DE C W tb wb) : DE C W (tIf tc ta tb) (fun env Q X => wc env (fun k => if k = true then wa env Q X else wb env Q X) X) := by
  intro G env σ H Q Qx Qv R hx hq h
  refine hc G env σ H _ Qx _ R hx ?_ h
  intro b H1 s1 h1
  cases b with
  | true => exact ha G env σ H1 Q Qx Qv (R.same s1) (hx.same s1) (fun v H2 r s2 p q => hq v H2 r (s1.trans s2) (p.back s1) q) (by simpa using h1)
  | false => exact hb G env σ H1 Q Qx Qv (R.same s1) (hx.same s1) (fun v H2 r s2 p q => hq v H2 r (s1.trans s2) (p.back s1) q) (by simpa using h1)
theorem de_neg {ta : TE} {wa : WpE} (ha : DE C W ta wa) : DE C W (tUn (rU fun i => .int (-i)) ta) (fun env Q X => wa env (fun x => match x.d with | .int i => Q (.v .fro (.int (-i))) | _ => False) X) := by
  intro G env σ H Q Qx Qv R hx hq h
  refine ha G env σ H _ Qx _ R hx ?_ h
  intro v1 H1 r1 s1 p1 h1
  split at h1
  · rename_i i e
    exact ⟨i, p1.int e, hq _ H1 _ s1 repI h1⟩
  · exact h1.elim
/-! ### displays -/
theorem da_nil : DA C W 0 tNil (fun _ Q _ => Q []) := by
  intro G env σ H Q Qx Qv R hx hq h
  exact hq [] H [] (Same.refl H) rfl .nil h
theorem da_cons {ta : TE} {tr : TA} {wa : WpE} {wr : En → (List R → Prop) → (Exn → Prop) → Prop} (ha : DE C W ta wa) {n : Nat} (hr : DA C W n tr wr) : DA C W (n + 1) (tCons ta tr) (fun env Q X => wa env (fun r => wr env (fun rs => Q (r :: rs)) X) X) := by
  intro G env σ H Q Qx Qv R hx hq h
  refine ha G env σ H _ Qx _ R hx ?_ h
  intro v1 H1 r1 s1 p1 h1
  refine hr G env σ H1 _ Qx _ (R.same s1) (hx.same s1) ?_ h1
  intro vs H2 rs s2 l2 p2 h2
  exact hq _ H2 _ (s1.trans s2) (by simp [l2]) (.cons (p1.same s2) (Paired.back s1 p2)) h2
theorem fl_inf_all {P : Addr → Prop} : ∀ {rs : List R} {vs : List V}, Paired (RepR C O Hb H) rs vs → RepL C (Pf C O (flAll rs)) H (rs.map R.d) vs
  | _, _, .nil => RepL.nil
  | _, _, .cons (a := r) r1 t => by
    have t2 := fl_inf_all (P := P) t
    rw [List.map_cons]
    refine RepL.cons (r1.el.imp fun a _ q => Pf.inf_l q) (t2.imp fun a _ q => Pf.inf_r q)
theorem paired_len {F : R → V → Prop} : ∀ {rs : List R} {vs : List V}, Paired F rs vs → rs.length = vs.length
  | _, _, .nil => rfl
  | _, _, .cons _ t => by simp [paired_len t]
theorem de_tup {ta : TA} {wa : En → (List R → Prop) → (Exn → Prop) → Prop} {n : Nat} (ha : DA C W n ta wa) : DE C W (tTup ta) (fun env Q X => wa env (fun rs => rs.length ≤ line ∧ Q (.v (flAll rs) (.tup (rs.map R.d)))) X) := by
  intro G env σ H Q Qx Qv R hx hq h
  refine ha G env σ H _ Qx _ R hx ?_ h
  intro vs H1 rs s1 l1 p1 h1
  exact ⟨by rw [← paired_len p1, ← line_eq]; exact h1.1, fun p hp => hq _ _ _ (s1.trans (same_upd hp)) ((newT hp (fl_inf_all (P := fun _ => True) p1)).back s1) h1.2⟩
theorem de_lst {ta : TA} {wa : En → (List R → Prop) → (Exn → Prop) → Prop} {n : Nat} (ha : DA C W n ta wa) : DE C W (tLst ta) (fun env Q X => wa env (fun rs => rs.length ≤ line ∧ Q (.n (flAll rs) (.lst (rs.map R.d)))) X) := by
  intro G env σ H Q Qx Qv R hx hq h
  refine ha G env σ H _ Qx _ R hx ?_ h
  intro vs H1 rs s1 l1 p1 h1
  exact ⟨by rw [← paired_len p1, ← line_eq]; exact h1.1, fun p hp => hq _ _ _ (s1.trans (same_upd hp)) ((newL (R.fr.same s1) hp (fl_inf_all (P := fun _ => True) p1)).back s1) h1.2⟩
theorem de_dic0 : DE C W tDNewK (fun _ Q _ => Q (.n .fro (.dic []))) := by
  intro G env σ H Q Qx Qv R hx hq h
  exact fun p hp => hq _ _ _ (same_upd hp) (newD R.fr hp) h
end
end Dv

namespace Dv
open PySem PySem.Spec PyProof.Rows L2
section
variable {C : Cc} {W : WX} {O : Addr → Prop} {H Hb : Hp}

/-! ### what a loop walks -/
def ItOk (C : Cc) (P : Addr → Prop) (J : L2.It) (ds : List D) (H1 : Hp) : Prop := ∀ H2, Keep P H1 H2 →
  (∀ i, i < ds.length → J.go i H2) ∧ (∀ i, ds.length ≤ i → J.stop i H2) ∧
    ∀ i x H3, J.yld i H2 x H3 → i < ds.length → Same H2 H3 ∧ ∃ d, ds[i]? = some d ∧ Rep C P H3 d x
def DI (C : Cc) (W : WX) (wi : TI) (w : En → (Fl → List D → Prop) → (Exn → Prop) → Prop) : Prop := ∀ G env σ H (Q : Fl → List D → Prop) (Qx : Exn → Prop) (Rr : L2.It → Hp → Prop), RelO C G env σ H → XOk C W σ H Qx →
  (∀ J H' f ds, Same H H' → (∀ P, (∀ a, (∃ o, H' a = some o) → Pf C (Own env σ) f a → P a) → ItOk C P J ds H') → Q f ds → Rr J H') → w env Q Qx → wi σ H Rr
theorem itok_list {P : Addr → Prop} {a : Addr} {ds : List D} {vs : List V} (hp : P a) (h : H a = some (.lst vs)) (t : RepL C P H ds vs) : ItOk C P (Itl C.K a) ds H := by
  intro H2 k
  have h2 : SqL C.K H2 a vs := .inl (.inl (k.p _ _ hp h))
  have t2 := t.keep k
  refine ⟨fun i hi => ?_, fun i hi => ⟨vs, h2, by rw [← t.1]; exact hi⟩, fun i x H3 y hi => ?_⟩
  · have hv : i < vs.length := by rw [← t.1]; exact hi
    exact ⟨vs, vs[i], h2, by simp [hv]⟩
  · obtain ⟨rfl, y2⟩ := y
    obtain ⟨d, e, r⟩ := t2.getV (y2 vs h2)
    exact ⟨Same.refl _, d, e, r⟩
/-- with P what stays, P2 what the items are -/
def ItOk2 (C : Cc) (P P2 : Addr → Prop) (J : L2.It) (ds : List D) (H1 : Hp) : Prop := ∀ H2, Keep P H1 H2 →
  (∀ i, i < ds.length → J.go i H2) ∧ (∀ i, ds.length ≤ i → J.stop i H2) ∧
    ∀ i x H3, J.yld i H2 x H3 → i < ds.length → Same H2 H3 ∧ ∃ d, ds[i]? = some d ∧ Rep C P2 H3 d x
theorem ItOk.two {P P2 : Addr → Prop} {J : L2.It} {ds : List D} {H1 : Hp} (k : ∀ a, P2 a → P a) (h : ItOk C P2 J ds H1) : ItOk2 C P P2 J ds H1 := fun H2 kp => h H2 (kp.imp k)
theorem itok2_list {P P2 : Addr → Prop} {a : Addr} {ds : List D} {vs : List V} (k : ∀ a, P2 a → P a) (hp : P a) (h : H a = some (.lst vs)) (t : RepL C P2 H ds vs) : ItOk2 C P P2 (Itl C.K a) ds H := by
  intro H2 kp
  have h2 : SqL C.K H2 a vs := .inl (.inl (kp.p _ _ hp h))
  have t2 := t.keep (kp.imp k)
  refine ⟨fun i hi => ?_, fun i hi => ⟨vs, h2, by rw [← t.1]; exact hi⟩, fun i x H3 y hi => ?_⟩
  · have hv : i < vs.length := by rw [← t.1]; exact hi
    exact ⟨vs, vs[i], h2, by simp [hv]⟩
  · obtain ⟨rfl, y2⟩ := y
    obtain ⟨d, e, r⟩ := t2.getV (y2 vs h2)
    exact ⟨Same.refl _, d, e, r⟩
theorem itok2_rev {P P2 : Addr → Prop} {a : Addr} {ds : List D} {vs : List V} (k : ∀ a, P2 a → P a) (hp : P a) (h : H a = some (.lst vs)) (t : RepL C P2 H ds vs) : ItOk2 C P P2 (Itv C.K a vs.length) ds.reverse H := by
  intro H2 kp
  have h2 : SqL C.K H2 a vs := .inl (.inl (kp.p _ _ hp h))
  have t2 := t.keep (kp.imp k)
  have hl := t.1
  refine ⟨fun i hi => ?_, fun i hi => (by rw [List.length_reverse] at hi; omega : vs.length ≤ i), fun i x H3 y hi => ?_⟩
  · have hv : i < vs.length := by rw [List.length_reverse] at hi; omega
    exact ⟨hv, vs, vs[vs.length - 1 - i], h2, by rw [List.getElem?_eq_getElem]⟩
  · obtain ⟨rfl, y2⟩ := y
    have hv : i < vs.length := by rw [List.length_reverse] at hi; omega
    obtain ⟨d, e, r⟩ := t2.getV (y2 vs h2)
    refine ⟨Same.refl _, d, ?_, r⟩
    rw [List.getElem?_reverse (by omega), hl]
    exact e
/-- for comprehensions: own lists, too -/
def DIc (C : Cc) (W : WX) (wi : TI) (w : En → (Fl → List D → Prop) → (Exn → Prop) → Prop) : Prop := ∀ G env σ H (Q : Fl → List D → Prop) (Qx : Exn → Prop) (Rr : L2.It → Hp → Prop), RelO C G env σ H → XOk C W σ H Qx →
  (∀ J H' f ds, Same H H' → (∀ P P2, (∀ a, (∃ o, H' a = some o) → ¬ C.B a → P a) → (∀ a, (∃ o, H' a = some o) → Pf C (Own env σ) f a → P2 a) → (∀ a, P2 a → P a) → ItOk2 C P P2 J ds H') → Q f ds → Rr J H') → w env Q Qx → wi σ H Rr
theorem itok_tup {P : Addr → Prop} {a : Addr} {ds : List D} {vs : List V} (h : SqT C.K H a vs) (t : RepL C P H ds vs) : ItOk C P (Itt C.K a) ds H := by
  intro H2 k
  have h2 : SqT C.K H2 a vs := k.tup h
  have t2 := t.keep k
  refine ⟨fun i hi => ?_, fun i hi => ⟨vs, h2, by rw [← t.1]; exact hi⟩, fun i x H3 y hi => ?_⟩
  · have hv : i < vs.length := by rw [← t.1]; exact hi
    exact ⟨vs, vs[i], h2, by simp [hv]⟩
  · obtain ⟨rfl, y2⟩ := y
    obtain ⟨d, e, r⟩ := t2.getV (y2 vs h2)
    exact ⟨Same.refl _, d, e, r⟩
theorem itok_range {P : Addr → Prop} {lo : Int} {n : Nat} : ItOk C P (Itr lo n) ((List.range n).map fun (i : Nat) => D.int (lo + i)) H := by
  intro H2 k
  refine ⟨fun i hi => (by simpa using hi : i < n), fun i hi => (by simpa using hi : n ≤ i), fun i x H3 y hi => ?_⟩
  obtain ⟨rfl, rfl⟩ := y
  have hn : i < n := by simpa using hi
  exact ⟨Same.refl _, .int (lo + i), by simp [hn], .int _⟩
theorem itok_rev {P : Addr → Prop} {a : Addr} {ds : List D} {vs : List V} (hp : P a) (h : H a = some (.lst vs)) (t : RepL C P H ds vs) : ItOk C P (Itv C.K a vs.length) ds.reverse H := by
  intro H2 k
  have h2 : SqL C.K H2 a vs := .inl (.inl (k.p _ _ hp h))
  have t2 := t.keep k
  have hl := t.1
  refine ⟨fun i hi => ?_, fun i hi => (by rw [List.length_reverse] at hi; omega : vs.length ≤ i), fun i x H3 y hi => ?_⟩
  · have hv : i < vs.length := by rw [List.length_reverse] at hi; omega
    exact ⟨hv, vs, vs[vs.length - 1 - i], h2, by rw [List.getElem?_eq_getElem]⟩
  · obtain ⟨rfl, y2⟩ := y
    have hv : i < vs.length := by rw [List.length_reverse] at hi; omega
    obtain ⟨d, e, r⟩ := t2.getV (y2 vs h2)
    refine ⟨Same.refl _, d, ?_, r⟩
    rw [List.getElem?_reverse (by omega), hl]
    exact e
/-- a list's own place, by the flag of what is told of it -/
theorem RepR.lstP {r : R} {v : V} {ds : List D} (h : RepR C O Hb H r v) (e : r.d = .lst ds) : ∃ a vs, v = .ref a ∧ Pf C O r.fl a ∧ H a = some (.lst vs) ∧ RepL C (Pf C O r.fl) H ds vs := by
  have q := h.el
  rw [e] at q
  cases q with
  | lst p h1 hl he => exact ⟨_, _, rfl, p, h1, hl, he⟩
def iSeq (K : PySem.W.Frag) (tl : TE) : TI := fun σ H R => tl σ H fun x H1 => (∃ a, x = .ref a ∧ (∃ xs, SqL K H1 a xs) ∧ R (Itl K a) H1) ∨ (∃ a, x = .ref a ∧ (∃ xs, SqT K H1 a xs) ∧ R (Itt K a) H1) ∨ ∃ z, x = .str z ∧ R (Its z) H1
theorem pi_seq {X : Cx} {tg l : Expr} {tl : TE} (hl : PE X l tl) : PI X tg l (iSeq X.K tl) := by
  refine ⟨fun pins s σ H R I h => ?_⟩
  refine thn (hl.run pins s σ H _ I h) fun v s1 hh => ?_
  obtain ⟨x, H1, I1, r1, q1⟩ := hh
  rcases q1 with ⟨a, rfl, ⟨xs, hq⟩, q⟩ | ⟨a, rfl, ⟨xs, hq⟩, q⟩ | ⟨z, rfl, q⟩
  · cases r1
    obtain ⟨its, rv, p, hz⟩ := I1.list hq
    refine wpAny_pyIter_list p.isList ?_
    exact ⟨_, [s1.heap.objs.size], _, _, H1, rfl, I1.kept (t' := s1.toks) (fun b o e => Heap.get?_push_of_some _ e), turn_list a _,
      ⟨_, Heap.get?_push_size _ rfl, rfl, rfl⟩, (fun b hb => by
        obtain rfl : b = s1.heap.objs.size := by simpa using hb
        exact I1.fpOk (Nat.le_refl _) (I1.hok.fresh (Nat.le_refl _))), q⟩
  · cases r1
    obtain ⟨its, rv, p, hz⟩ := I1.tuple hq
    refine wpAny_pyIter_tuple (show s1.heap.IsTuple a its.toArray from p) ?_
    exact ⟨_, [s1.heap.objs.size], _, _, H1, rfl, I1.kept (t' := s1.toks) (fun b o e => Heap.get?_push_of_some _ e), turn_tuple a _,
      ⟨_, Heap.get?_push_size _ rfl, rfl, rfl⟩, (fun b hb => by
        obtain rfl : b = s1.heap.objs.size := by simpa using hb
        exact I1.fpOk (Nat.le_refl _) (I1.hok.fresh (Nat.le_refl _))), q⟩
  · obtain ⟨t, rfl⟩ := r1
    cases ha : z.cps.all (· < 128)
    · exact wpAny_pyIter_wide ha (pi_one (tk := s1.toks) I1 _ (turn_str _ z t "str_iterator" (.inr rfl)) ⟨_, Heap.get?_push_size _ rfl, rfl, rfl⟩ q)
    · exact wpAny_pyIter_ascii ha (pi_one (tk := s1.toks) I1 _ (turn_str _ z t "str_ascii_iterator" (.inl rfl)) ⟨_, Heap.get?_push_size _ rfl, rfl, rfl⟩ q)
theorem itok_str {P : Addr → Prop} {z : Str} : ItOk C P (Its z) (z.cps.toList.map fun c => D.str ⟨#[c]⟩) H := by
  intro H2 k
  refine ⟨fun i hi => (by simpa using hi : i < z.cps.size), fun i hi => (by simpa using hi : z.cps.size ≤ i), fun i x H3 y hi => ?_⟩
  obtain ⟨rfl, c, hc, rfl⟩ := y
  refine ⟨Same.refl _, .str ⟨#[c]⟩, ?_, .str _⟩
  rw [List.getElem?_map, Array.getElem?_toList, hc]
  rfl
theorem di_seq {ta : TE} {wa : WpE} (ha : DE C W ta wa) : DI C W (iSeq C.K ta) (fun env Q X => wa env (fun x => match seqOf x.d with | some ds => Q x.fl ds | none => False) X) := by
  intro G env σ H Q Qx Rr R hx hq h
  refine ha G env σ H _ Qx _ R hx ?_ h
  intro v1 H1 r1 s1 p1 h1
  split at h1
  · rename_i ds e
    unfold seqOf at e
    split at e
    · rename_i es e2
      cases e
      obtain ⟨a, vs, rfl, hp, h2, t⟩ := p1.lstP e2
      exact .inl ⟨a, rfl, ⟨vs, .inl (.inl h2)⟩, hq _ H1 _ _ s1 (fun P k => itok_list (k _ ⟨_, h2⟩ hp) h2 (t.imp k)) h1⟩
    · rename_i es e2
      cases e
      obtain ⟨a, vs, rfl, h2, t⟩ := p1.tup e2
      exact .inr (.inl ⟨a, rfl, ⟨vs, h2⟩, hq _ H1 _ _ s1 (fun P k => itok_tup h2 (t.imp k)) h1⟩)
    · rename_i z e2
      cases e
      exact .inr (.inr ⟨z, p1.str e2, hq _ H1 _ _ s1 (fun P k => itok_str) h1⟩)
    · cases e
  · exact h1.elim
theorem paired1 {F : R → V → Prop} {x : R} {vs : List V} (h : Paired F [x] vs) : ∃ v, vs = [v] ∧ F x v := by
  cases h with
  | cons a t => cases t; exact ⟨_, rfl, a⟩
theorem paired2 {F : R → V → Prop} {x y : R} {vs : List V} (h : Paired F [x, y] vs) : ∃ v u, vs = [v, u] ∧ F x v ∧ F y u := by
  cases h with
  | cons a t =>
    cases t with
    | cons b t => cases t; exact ⟨_, _, rfl, a, b⟩
theorem paired3 {F : R → V → Prop} {x y z : R} {vs : List V} (h : Paired F [x, y, z] vs) : ∃ v u w, vs = [v, u, w] ∧ F x v ∧ F y u ∧ F z w := by
  cases h with
  | cons a t =>
    obtain ⟨v, u, rfl, b, c⟩ := paired2 t
    exact ⟨_, _, _, rfl, a, b, c⟩
theorem paired4 {F : R → V → Prop} {x y z s : R} {vs : List V} (h : Paired F [x, y, z, s] vs) : ∃ v u w r, vs = [v, u, w, r] ∧ F x v ∧ F y u ∧ F z w ∧ F s r := by
  cases h with
  | cons a t =>
    obtain ⟨v, u, w, rfl, b, c, d⟩ := paired3 t
    exact ⟨_, _, _, _, rfl, a, b, c, d⟩
theorem di_range1 {ta : TE} {wa : WpE} (ha : DE C W ta wa) : DI C W (iRng1 (tCons ta tNil)) (fun env Q X => wa env (fun x => match x.d with | .int n => ib n ∧ Q .fro (rangeL 0 n) | _ => False) X) := by
  intro G env σ H Q Qx Rr R hx hq h
  refine ha G env σ H _ Qx _ R hx ?_ h
  intro v1 H1 r1 s1 p1 h1
  split at h1
  · rename_i n e
    refine ⟨n, by rw [p1.int e], h1.1.1, h1.1.2, hq _ H1 _ _ s1 (fun P _ => ?_) h1.2⟩
    have : (n - 0).toNat = n.toNat := by simp
    unfold rangeL
    rw [this]
    exact itok_range
  · exact h1.elim
theorem di_range2 {ta tb : TE} {wa wb : WpE} (ha : DE C W ta wa) (hb : DE C W tb wb) : DI C W (iRng2 (tCons ta (tCons tb tNil))) (fun env Q X => wa env (fun x => wb env (fun y => match x.d, y.d with | .int m, .int n => ib m ∧ ib n ∧ Q .fro (rangeL m n) | _, _ => False) X) X) := by
  intro G env σ H Q Qx Rr R hx hq h
  refine ha G env σ H _ Qx _ R hx ?_ h
  intro v1 H1 r1 s1 p1 h1
  refine hb G env σ H1 _ Qx _ (R.same s1) (hx.same s1) ?_ h1
  intro v2 H2 r2 s2 p2 h2
  split at h2
  · rename_i m n e1 e2
    exact ⟨m, n, by rw [p1.int e1, p2.int e2], ⟨h2.1.1, h2.1.2, h2.2.1.1, h2.2.1.2⟩, hq _ H2 _ _ (s1.trans s2) (fun P _ => itok_range) h2.2.2⟩
  · exact h2.elim
/-! ### a range of any numbers -/
theorem turn_rangeW {P : Program} {w : World} {K : PySem.W.Frag} {tg : Expr} (it : Addr) (lo : Int) (n : Nat) : Turn P w K tg (Itr lo n) [it] it (fun i h => IsLongIter h it (lo + (i : Nat) * 1) ((n : Int) - (i : Nat)) 1) where
  mem := by simp
  obj := fun i h st b hb => by
    have e : b = it := by simpa using hb
    subst e
    exact ⟨_, st, fun v z => by
      have z' : Data.fields _ = Data.cell v := z
      cases z'⟩
  keep := fun i h h' st k => k it (by simp) _ st
  item := by
    intro X hP hw hK hc i pins s σ H E I hf st hg
    subst hP hw hK
    obtain ⟨f0, f1, f2, f3, f4, f5⟩ := hf it (by simp)
    have W := Walks.longrange (prog := X.prog) (w := X.w) (I.ok.hd hc) it lo 1 n
    refine W.item i s _ _ hg st fun v h' tk hv st' kk => ?_
    obtain ⟨t, rfl⟩ := hv
    have I1 : Inv X pins σ H { s with heap := h', toks := tk } := I.turned (fun b o hb e => kk b o (by simpa using hb) e) f0 f1 f3 f4 f5
    refine ⟨_, rfl, go_of (s := { s with heap := h', toks := tk }) (n := "longrange_iterator") st' rfl rfl (by decide) ⟨.int (lo + i), H, I1, ⟨t, ?_⟩, ⟨rfl, rfl⟩, st', fun b hb => (hf b hb).1⟩⟩
    rw [Int.mul_one]
  done := by
    intro X hP hw hK hc i pins s σ H E I hf st hg
    subst hP hw hK
    obtain ⟨f0, f1, f2, f3, f4, f5⟩ := hf it (by simp)
    exact wpAny_pyNext_long_end (I.ok.hd hc) st (by have : n ≤ i := hg; omega) fun h' eb => ⟨rfl, I.turned (t' := s.toks) (fun b o hb e => eb b o hb e) f0 f1 f3 f4 f5⟩
  self := fun _ _ _ _ _ st h => wpAny_pyIter_longiter st h
theorem range_itW {X : Cx} {tg : Expr} {pins : List (Addr × Obj)} {σ : L2.St} {H : Hp} {s : Shared} {R : L2.It → Hp → Prop} {E : Value → Shared → Prop} {lo hi : Int} {t u v : Tok} {tk : Nat} (I : Inv X pins σ H s)
    (q : R (Itr lo (hi - lo).toNat) H) : wpAny (model X.prog X.w) X.A (pyIter (.ref s.heap.objs.size)) (PIE X pins σ tg R) E { s with heap := s.heap.push { cls := .type "range", data := .fields #[.int lo t, .int hi u, .int 1 v] }, toks := tk } := by
  have e1 : lo + ((0 : Nat) : Int) * 1 = lo := by simp
  have e2 : (((hi - lo).toNat : Nat) : Int) - ((0 : Nat) : Int) = Builtin.Range.rangeSize lo hi 1 := by rw [rangeSize_one]; split <;> omega
  have I1 : Inv X pins σ H { s with heap := s.heap.push { cls := .type "range", data := .fields #[.int lo t, .int hi u, .int 1 v] }, toks := tk } := I.kept fun b o e => Heap.get?_push_of_some _ e
  cases hs : Builtin.Range.small lo hi 1 with
  | true =>
    refine wpAny_pyIter_range (IsRange.new ..) hs ?_
    refine ⟨(s.heap.push { cls := .type "range", data := .fields #[.int lo t, .int hi u, .int 1 v] }).objs.size, [(s.heap.push { cls := .type "range", data := .fields #[.int lo t, .int hi u, .int 1 v] }).objs.size], _, _, H, rfl,
      I1.kept (t' := tk) fun b o e => Heap.get?_push_of_some _ e, turn_range _ lo (hi - lo).toNat, ?_, fun b hb => ?_, q⟩
    · show IsRangeIter _ _ (lo + ((0 : Nat) : Int) * 1) ((((hi - lo).toNat : Nat) : Int) - ((0 : Nat) : Int)) 1
      rw [e1, e2]
      exact Heap.get?_push_size _ rfl
    · have e : b = (s.heap.push { cls := .type "range", data := .fields #[.int lo t, .int hi u, .int 1 v] }).objs.size := by simpa using hb
      subst e
      exact I1.fpOk (Nat.le_refl _) (I1.hok.fresh (Nat.le_refl _))
  | false =>
    refine wpAny_pyIter_longrange (IsRange.new ..) hs ?_
    refine ⟨(s.heap.push { cls := .type "range", data := .fields #[.int lo t, .int hi u, .int 1 v] }).objs.size, [(s.heap.push { cls := .type "range", data := .fields #[.int lo t, .int hi u, .int 1 v] }).objs.size], _, _, H, rfl,
      I1.kept (t' := tk) fun b o e => Heap.get?_push_of_some _ e, turn_rangeW _ lo (hi - lo).toNat, ?_, fun b hb => ?_, q⟩
    · show IsLongIter _ _ (lo + ((0 : Nat) : Int) * 1) ((((hi - lo).toNat : Nat) : Int) - ((0 : Nat) : Int)) 1
      rw [e1, e2]
      exact Heap.get?_push_size _ rfl
    · have e : b = (s.heap.push { cls := .type "range", data := .fields #[.int lo t, .int hi u, .int 1 v] }).objs.size := by simpa using hb
      subst e
      exact I1.fpOk (Nat.le_refl _) (I1.hok.fresh (Nat.le_refl _))
def iRngW (ta : TA) : TI := fun σ H R => ta σ H fun vs H1 => ∃ i j : Int, vs = [.int i, .int j] ∧ R (Itr i (j - i).toNat) H1
theorem pi_rangeW {X : Cx} {tg : Expr} {a b : Expr} {ta : TA} {p pos : Pos} (hg : Gl X "range") (hm : X.mg "range" = none) (ha : PA X [a, b] ta) (hs : starEach [a, b] X.env = [(false, eval a X.env), (false, eval b X.env)]) (hs2 : starEach [b] X.env = [(false, eval b X.env)]) :
    PI X tg (.Call (.Name "range" p) [a, b] [] pos) (iRngW ta) := by
  refine ⟨fun pins s σ H R I h => ?_⟩
  refine Call_ (ld_blt I hg hm boot_range (PyProof.Rows.callWith_type1 (thn (ha.run pos pins s σ H _ I h) fun us s1 ⟨vs, H1, I1, r1, q1⟩ => ?_) (by rw [hs, hs2]) (by rw [hs2]; rfl)))
  obtain ⟨i, j, e, q⟩ := q1
  subst e
  cases r1 with
  | cons r rr =>
    cases rr with
    | cons r' rr =>
      cases rr
      obtain ⟨t, rfl⟩ := r
      obtain ⟨t', rfl⟩ := r'
      exact call_range_2 (range_itW I1 q)
theorem di_rangeW {ta tb : TE} {wa wb : WpE} (ha : DE C W ta wa) (hb : DE C W tb wb) : DI C W (iRngW (tCons ta (tCons tb tNil))) (fun env Q X => wa env (fun x => wb env (fun y => match x.d, y.d with | .int m, .int n => Q .fro (rangeL m n) | _, _ => False) X) X) := by
  intro G env σ H Q Qx Rr R hx hq h
  refine ha G env σ H _ Qx _ R hx ?_ h
  intro v1 H1 r1 s1 p1 h1
  refine hb G env σ H1 _ Qx _ (R.same s1) (hx.same s1) ?_ h1
  intro v2 H2 r2 s2 p2 h2
  split at h2
  · rename_i m n e1 e2
    exact ⟨m, n, by rw [p1.int e1, p2.int e2], hq _ H2 _ _ (s1.trans s2) (fun P _ => itok_range) h2⟩
  · exact h2.elim
theorem di_rev {ta : TE} {wa : WpE} (ha : DE C W ta wa) : DI C W (iRev C.K (tCons ta tNil)) (fun env Q X => wa env (fun x => match x.d with | .lst ds => Q x.fl ds.reverse | _ => False) X) := by
  intro G env σ H Q Qx Rr R hx hq h
  refine ha G env σ H _ Qx _ R hx ?_ h
  intro v1 H1 r1 s1 p1 h1
  split at h1
  · rename_i ds e
    obtain ⟨a, vs, rfl, hp, h2, t⟩ := p1.lstP e
    exact ⟨a, vs, rfl, .inl (.inl h2), hq _ H1 _ _ s1 (fun P k => itok_rev (k _ ⟨_, h2⟩ hp) h2 (t.imp k)) h1⟩
  · exact h1.elim

theorem RepR.efl_tup {Hb : Hp} {O : Addr → Prop} {r : R} {v : V} {ds : List D} (h : RepR C O Hb H r v) (e : r.d = .tup ds) : r.fl = r.efl := by
  cases r with
  | v f d => rfl
  | n f d => rfl
  | b f d =>
    obtain ⟨a, _, _, h3⟩ := h
    have e : d = .tup ds := e
    subst e
    exact h3.elim
theorem dic_seq {ta : TE} {wa : WpE} (ha : DE C W ta wa) : DIc C W (iSeq C.K ta) (fun env Q X => wa env (fun x => match seqOf x.d with | some ds => Q x.efl ds | none => False) X) := by
  intro G env σ H Q Qx Rr R hx hq h
  refine ha G env σ H _ Qx _ R hx ?_ h
  intro v1 H1 r1 s1 p1 h1
  split at h1
  · rename_i ds e
    unfold seqOf at e
    split at e
    · rename_i es e2
      cases e
      obtain ⟨a, vs, rfl, hp, h2, t⟩ := p1.lstE e2
      exact .inl ⟨a, rfl, ⟨vs, .inl (.inl h2)⟩, hq _ H1 _ _ s1 (fun P P2 k k2 k3 => itok2_list k3 (k _ ⟨_, h2⟩ hp) h2 (t.imp k2)) h1⟩
    · rename_i es e2
      cases e
      obtain ⟨a, vs, rfl, h2, t⟩ := p1.tup e2
      exact .inr (.inl ⟨a, rfl, ⟨vs, h2⟩, hq _ H1 _ _ s1 (fun P P2 k k2 k3 => (itok_tup h2 (t.imp fun b z q => k2 b z (by rw [← p1.efl_tup e2]; exact q))).two k3) h1⟩)
    · rename_i z e2
      cases e
      exact .inr (.inr ⟨z, p1.str e2, hq _ H1 _ _ s1 (fun P P2 k k2 k3 => itok_str.two k3) h1⟩)
    · cases e
  · exact h1.elim
theorem dic_range1 {ta : TE} {wa : WpE} (ha : DE C W ta wa) : DIc C W (iRng1 (tCons ta tNil)) (fun env Q X => wa env (fun x => match x.d with | .int n => ib n ∧ Q .fro (rangeL 0 n) | _ => False) X) := by
  intro G env σ H Q Qx Rr R hx hq h
  refine ha G env σ H _ Qx _ R hx ?_ h
  intro v1 H1 r1 s1 p1 h1
  split at h1
  · rename_i n e
    refine ⟨n, by rw [p1.int e], h1.1.1, h1.1.2, hq _ H1 _ _ s1 (fun P P2 _ _ k3 => ?_) h1.2⟩
    have : (n - 0).toNat = n.toNat := by simp
    unfold rangeL
    rw [this]
    exact itok_range.two k3
  · exact h1.elim
theorem dic_range2 {ta tb : TE} {wa wb : WpE} (ha : DE C W ta wa) (hb : DE C W tb wb) : DIc C W (iRng2 (tCons ta (tCons tb tNil))) (fun env Q X => wa env (fun x => wb env (fun y => match x.d, y.d with | .int m, .int n => ib m ∧ ib n ∧ Q .fro (rangeL m n) | _, _ => False) X) X) := by
  intro G env σ H Q Qx Rr R hx hq h
  refine ha G env σ H _ Qx _ R hx ?_ h
  intro v1 H1 r1 s1 p1 h1
  refine hb G env σ H1 _ Qx _ (R.same s1) (hx.same s1) ?_ h1
  intro v2 H2 r2 s2 p2 h2
  split at h2
  · rename_i m n e1 e2
    exact ⟨m, n, by rw [p1.int e1, p2.int e2], ⟨h2.1.1, h2.1.2, h2.2.1.1, h2.2.1.2⟩, hq _ H2 _ _ (s1.trans s2) (fun P P2 _ _ k3 => itok_range.two k3) h2.2.2⟩
  · exact h2.elim
theorem dic_rangeW {ta tb : TE} {wa wb : WpE} (ha : DE C W ta wa) (hb : DE C W tb wb) : DIc C W (iRngW (tCons ta (tCons tb tNil))) (fun env Q X => wa env (fun x => wb env (fun y => match x.d, y.d with | .int m, .int n => Q .fro (rangeL m n) | _, _ => False) X) X) := by
  intro G env σ H Q Qx Rr R hx hq h
  refine ha G env σ H _ Qx _ R hx ?_ h
  intro v1 H1 r1 s1 p1 h1
  refine hb G env σ H1 _ Qx _ (R.same s1) (hx.same s1) ?_ h1
  intro v2 H2 r2 s2 p2 h2
  split at h2
  · rename_i m n e1 e2
    exact ⟨m, n, by rw [p1.int e1, p2.int e2], hq _ H2 _ _ (s1.trans s2) (fun P P2 _ _ k3 => itok_range.two k3) h2⟩
  · exact h2.elim
theorem dic_rev {ta : TE} {wa : WpE} (ha : DE C W ta wa) : DIc C W (iRev C.K (tCons ta tNil)) (fun env Q X => wa env (fun x => match x.d with | .lst ds => Q x.efl ds.reverse | _ => False) X) := by
  intro G env σ H Q Qx Rr R hx hq h
  refine ha G env σ H _ Qx _ R hx ?_ h
  intro v1 H1 r1 s1 p1 h1
  split at h1
  · rename_i ds e
    obtain ⟨a, vs, rfl, hp, h2, t⟩ := p1.lstE e
    exact ⟨a, vs, rfl, .inl (.inl h2), hq _ H1 _ _ s1 (fun P P2 k k2 k3 => itok2_rev k3 (k _ ⟨_, h2⟩ hp) h2 (t.imp k2)) h1⟩
  · exact h1.elim

/-! ### storing -/
/-- slot i gets a value -/
theorem RelO.setV {G : Hp} {env : En} {σ : L2.St} {i : Nat} {f : Fl} {d : D} {v : V} (R : RelO C G env σ H) (hf : f ≠ .bor) (r : Rep C (Pf C (Own env σ) f) H d v) : RelO C G (env.set i (.v f d)) (σ.set i (some v)) H := by
  have sub : ∀ a, Own (env.set i (.v f d)) (σ.set i (some v)) a → Own env σ a := by
    rintro a ⟨j, g, d', e1, e2⟩
    rw [List.getElem?_set] at e1 e2
    by_cases hj : i = j
    · subst hj
      rw [if_pos rfl] at e1
      split at e1
      · cases e1
      · cases e1
    · rw [if_neg hj] at e1 e2
      exact ⟨j, g, d', e1, e2⟩
  refine ⟨by simp [R.len], R.h0, R.g, R.scr, fun a z => R.own a (sub a z), fun a z => ⟨(R.bus a z).1, (R.bus a z).2.1, fun y => (R.bus a z).2.2 (sub a y)⟩, fun j k f1 d1 f2 d2 a e1 e2 e3 e4 => ?_, fun j s e => ?_⟩
  · rw [List.getElem?_set] at e1 e2 e3 e4
    by_cases hj : i = j
    · subst hj
      rw [if_pos rfl] at e1
      split at e1 <;> cases e1
    · by_cases hk : i = k
      · subst hk
        rw [if_pos rfl] at e2
        split at e2 <;> cases e2
      · rw [if_neg hj] at e1 e3
        rw [if_neg hk] at e2 e4
        exact R.inj j k _ _ _ _ a e1 e2 e3 e4
  · rw [List.getElem?_set] at e
    by_cases hj : i = j
    · subst hj
      rw [if_pos rfl] at e
      split at e
      · rename_i hi
        cases e
        refine ⟨v, ?_, hf, r.imp fun a _ q => q.anti fun _ z => sub a z⟩
        rw [List.getElem?_set_self (by rw [← R.len]; exact hi)]
      · cases e
    · rw [if_neg hj] at e
      rw [List.getElem?_set_ne hj]
      have q := R.sl j s e
      cases s with
      | x xc xf xa => exact q
      | e => trivial
      | v g d' =>
        obtain ⟨v', e', hg, r'⟩ := q
        exact ⟨v', e', hg, r'.imp fun a _ q => q.anti fun _ z => sub a z⟩
      | o g d' =>
        obtain ⟨a', e', hg, r'⟩ := q
        exact ⟨a', e', hg, r'.imp fun a _ q => q.anti fun _ z => sub a z⟩
/-- slot i gets a new list or dict of its own -/
theorem RelO.setO {G : Hp} {env : En} {σ : L2.St} {H1 : Hp} {i : Nat} {f : Fl} {d : D} {a : Addr} (R : RelO C G env σ H) (s : Same H H1) (hf : f ≠ .bor) (hn : H a = none) (r : OwnR C (Pf C (Own env σ) f) H1 a d) : RelO C G (env.set i (.o f d)) (σ.set i (some (.ref a))) H1 := by
  have hO := R.new hn
  have sub : ∀ b, Own (env.set i (.o f d)) (σ.set i (some (.ref a))) b → Own env σ b ∨ b = a := by
    rintro b ⟨j, g, d', e1, e2⟩
    rw [List.getElem?_set] at e1 e2
    by_cases hj : i = j
    · subst hj
      rw [if_pos rfl] at e1 e2
      split at e2
      · cases e2; exact .inr rfl
      · cases e2
    · rw [if_neg hj] at e1 e2
      exact .inl ⟨j, g, d', e1, e2⟩
  have anti : ∀ {g : Fl} {b : Addr}, b ≠ a → Pf C (Own env σ) g b → Pf C (Own (env.set i (.o f d)) (σ.set i (some (.ref a)))) g b := fun hb q => q.anti fun _ z => (sub _ z).resolve_right hb
  refine ⟨by simp [R.len], R.h0, R.g.trans s, R.scr, fun b z => ?_, fun b z => ?_, fun j k f1 d1 f2 d2 b e1 e2 e3 e4 => ?_, fun j sl e => ?_⟩
  · rcases sub b z with z | rfl
    · exact R.own b z
    · exact hO.2.2.1
  · obtain ⟨⟨o, e⟩, h2, h3⟩ := R.bus b z
    refine ⟨⟨o, s b _ e⟩, h2, fun y => ?_⟩
    rcases sub b y with y | rfl
    · exact h3 y
    · rw [hn] at e; cases e
  · have own_ne : ∀ {m : Nat} {g : Fl} {d' : D}, env[m]? = some (.o g d') → σ[m]? = some (some (.ref a)) → False := fun e1 e2 => hO.1 ⟨_, _, _, e1, e2⟩
    rw [List.getElem?_set] at e1 e2 e3 e4
    by_cases hj : i = j
    · by_cases hk : i = k
      · exact hj.symm.trans hk
      · rw [if_neg hk] at e2 e4
        rw [if_pos hj] at e3
        split at e3
        · cases e3; exact (own_ne e2 e4).elim
        · cases e3
    · by_cases hk : i = k
      · rw [if_neg hj] at e1 e3
        rw [if_pos hk] at e4
        split at e4
        · cases e4; exact (own_ne e1 e3).elim
        · cases e4
      · rw [if_neg hj] at e1 e3
        rw [if_neg hk] at e2 e4
        exact R.inj j k _ _ _ _ b e1 e2 e3 e4
  · rw [List.getElem?_set] at e
    by_cases hj : i = j
    · subst hj
      rw [if_pos rfl] at e
      split at e
      · rename_i hi
        cases e
        refine ⟨a, ?_, hf, ?_⟩
        · rw [List.getElem?_set_self (by rw [← R.len]; exact hi)]
        · cases d with
          | lst ds =>
            obtain ⟨vs, e2, t⟩ := r
            exact ⟨vs, e2, t.imp fun b _ q => ⟨anti q.2 q.1, q.2⟩⟩
          | dic kvs =>
            obtain ⟨vs, e2, t⟩ := r
            exact ⟨vs, e2, t.imp fun b _ q => ⟨anti q.2 q.1, q.2⟩⟩
          | _ => exact r
      · cases e
    · rw [if_neg hj] at e
      rw [List.getElem?_set_ne hj]
      have q := R.sl j sl e
      have nea : ∀ {b : Addr}, (∃ o, H b = some o) → b ≠ a := fun ⟨o, e⟩ => ne_of_none e hn
      cases sl with
      | x xc xf xa => obtain ⟨xa', xd, e', z, r'⟩ := q; exact ⟨xa', xd, e', z, r'.keep (P := fun _ => False) (Keep.same s)⟩
      | e => trivial
      | v g d' =>
        obtain ⟨v', e', hg, r'⟩ := q
        exact ⟨v', e', hg, Rep.same s (r'.imp fun b z q => anti (nea z) q)⟩
      | o g d' =>
        obtain ⟨a', e', hg, r'⟩ := q
        exact ⟨a', e', hg, (r'.imp fun b z q => anti (nea z) q).keep (Keep.same s) fun o => s a' o⟩
theorem RelO.setR {G : Hp} {env : En} {σ : L2.St} {H1 : Hp} {i : Nat} {r : R} {v : V} {Q : Sl → Prop} (R : RelO C G env σ H) (s : Same H H1) (p : RepR C (Own env σ) H H1 r v) (h : slW r Q) :
    ∃ sl, Q sl ∧ RelO C G (env.set i sl) (σ.set i (some v)) H1 := by
  cases r with
  | v f d =>
    have p : Rep C (Pf C (Own env σ) f) H1 d v := p
    simp only [slW_v] at h
    by_cases hp : d.pure = true
    · rw [if_pos hp] at h
      exact ⟨_, h, (R.same s).setV (by decide) (p.pure hp)⟩
    · rw [if_neg hp] at h
      exact ⟨_, h.2, (R.same s).setV h.1 p⟩
  | n f d =>
    obtain ⟨a, rfl, h1, h2, h3⟩ := p
    simp only [slW_n] at h
    exact ⟨_, h.2, R.setO s h.1 h1.1 h3⟩
  | b f d => exact (show False from h).elim
/-! ### targets -/
def gUn (K : PySem.W.Frag) (n : Nat) (t : TGs) : TG := fun v σ H Q => gTup K n t v σ H Q ∨ gUnl K n t v σ H Q
theorem pg_un {X : Cx} {pos : Pos} {es : List Expr} {k : Nat} {t : TGs} {n : Nat} (hc : X.calm = true) (h : PGs X es t)
    (hn : (assignEach es X.env).length = n := by rfl) (hst : (assignEach es X.env).findIdx? (·.1) = none := by rfl) : PG X (.Tuple es k pos) (gUn X.K n t) :=
  ⟨fun pins s σ H v u Q I r hw => hw.elim (fun q => (pg_tup hc h hn hst).run pins s σ H v u Q I r q) fun q => (pg_unl hc h hn hst).run pins s σ H v u Q I r q⟩
def rdTg (K : PySem.W.Frag) : Tg → TG
  | .nm i => gName i
  | .t2 i j => gUn K 2 (gCons (gName i) (gCons (gName j) gNil))
  | .t3 i j k => gUn K 3 (gCons (gName i) (gCons (gName j) (gCons (gName k) gNil)))
  | .t4 i j k l => gUn K 4 (gCons (gName i) (gCons (gName j) (gCons (gName k) (gCons (gName l) gNil))))
  | .tt i j k l => gTup K 2 (gCons (gTup K 2 (gCons (gName i) (gCons (gName j) gNil))) (gCons (gTup K 2 (gCons (gName k) (gCons (gName l) gNil))) gNil))
theorem put1_ok {G : Hp} {env : En} {σ : L2.St} {i : Nat} {f : Fl} {d : D} {v : V} {Q : En → Prop} (R : RelO C G env σ H) (r : Rep C (Pf C (Own env σ) f) H d v) (h : put1 i f d env Q) :
    ∃ env', Q env' ∧ RelO C G env' (σ.set i (some v)) H ∧ (∀ a, Own env' (σ.set i (some v)) a → Own env σ a) ∧ ∃ x, env' = env.set i x := by
  unfold put1 at h
  simp only [slW_v] at h
  have sub : ∀ (g : Fl) (a : Addr), Own (env.set i (.v g d)) (σ.set i (some v)) a → Own env σ a := by
    rintro g a ⟨j, g', d', e1, e2⟩
    rw [List.getElem?_set] at e1 e2
    by_cases hj : i = j
    · subst hj
      rw [if_pos rfl] at e1
      split at e1 <;> cases e1
    · rw [if_neg hj] at e1 e2
      exact ⟨j, g', d', e1, e2⟩
  by_cases hp : d.pure = true
  · rw [if_pos hp] at h
    exact ⟨_, h, R.setV (by decide) (r.pure hp), sub _, _, rfl⟩
  · rw [if_neg hp] at h
    exact ⟨_, h.2, R.setV h.1 r, sub _, _, rfl⟩
theorem wipe_get : ∀ (vs : List Nat) (σ : L2.St) (k : Nat), (wipe σ vs)[k]? = if k ∈ vs then (if k < σ.length then some none else none) else σ[k]?
  | [], σ, k => by simp [wipe]
  | v :: vs, σ, k => by
    unfold wipe
    rw [List.getElem?_set, wipe_get vs σ k, wipe_length]
    by_cases h : v = k
    · subst h; simp
    · rw [if_neg h]
      have hk : ¬ k = v := fun e => h e.symm
      simp only [List.mem_cons, hk, false_or]
theorem wipe_eq {vs : List Nat} {σ σ' : L2.St} (hl : σ'.length = σ.length) (h : ∀ k, k ∉ vs → σ'[k]? = σ[k]?) : wipe σ' vs = wipe σ vs := by
  apply List.ext_getElem?
  intro k
  rw [wipe_get, wipe_get, hl]
  by_cases hk : k ∈ vs
  · rw [if_pos hk, if_pos hk]
  · rw [if_neg hk, if_neg hk]; exact h k hk
/-- slots outside these are as they were -/
def Off (is : List Nat) (σ σ' : L2.St) : Prop := σ'.length = σ.length ∧ ∀ k, k ∉ is → σ'[k]? = σ[k]?
theorem Off.set {is : List Nat} {σ σ' : L2.St} {i : Nat} {x : Option V} (h : Off is σ σ') (hi : i ∈ is) : Off is σ (σ'.set i x) := by
  refine ⟨by simp [h.1], fun k hk => ?_⟩
  have : i ≠ k := fun e => hk (e ▸ hi)
  rw [List.getElem?_set_ne this]
  exact h.2 k hk
def OffE (is : List Nat) (e e' : En) : Prop := ∀ k, k ∉ is → e'[k]? = e[k]?
theorem OffE.set {is : List Nat} {e e' : En} {i : Nat} {x : Sl} (h : OffE is e e') (hi : i ∈ is) : OffE is e (e'.set i x) := fun k hk => by
  have : i ≠ k := fun q => hk (q ▸ hi)
  rw [List.getElem?_set_ne this]
  exact h k hk
theorem OffE.refl (is : List Nat) (e : En) : OffE is e e := fun _ _ => rfl
theorem Off.refl (is : List Nat) (σ : L2.St) : Off is σ σ := ⟨rfl, fun _ _ => rfl⟩
theorem repL2 {P : Addr → Prop} {a b : D} {vs : List V} (t : RepL C P H [a, b] vs) : ∃ x y, vs = [x, y] ∧ Rep C P H a x ∧ Rep C P H b y := by
  match vs, t with
  | [x, y], t => exact ⟨x, y, rfl, t.head, t.tail.head⟩
  | [], t => have := t.1; simp at this
  | [_], t => have := t.1; simp at this
  | _ :: _ :: _ :: _, t => have := t.1; simp at this
theorem repL3 {P : Addr → Prop} {a b c : D} {vs : List V} (t : RepL C P H [a, b, c] vs) : ∃ x y z, vs = [x, y, z] ∧ Rep C P H a x ∧ Rep C P H b y ∧ Rep C P H c z := by
  match vs, t with
  | [x, y, z], t => exact ⟨x, y, z, rfl, t.head, t.tail.head, t.tail.tail.head⟩
  | [], t => have := t.1; simp at this
  | [_], t => have := t.1; simp at this
  | [_, _], t => have := t.1; simp at this
  | _ :: _ :: _ :: _ :: _, t => have := t.1; simp at this
theorem repL4 {P : Addr → Prop} {a b c d : D} {vs : List V} (t : RepL C P H [a, b, c, d] vs) : ∃ x y z u, vs = [x, y, z, u] ∧ Rep C P H a x ∧ Rep C P H b y ∧ Rep C P H c z ∧ Rep C P H d u := by
  match vs, t with
  | [x, y, z, u], t => exact ⟨x, y, z, u, rfl, t.head, t.tail.head, t.tail.tail.head, t.tail.tail.tail.head⟩
  | [], t => have := t.1; simp at this
  | [_], t => have := t.1; simp at this
  | [_, _], t => have := t.1; simp at this
  | [_, _, _], t => have := t.1; simp at this
  | _ :: _ :: _ :: _ :: _ :: _, t => have := t.1; simp at this
theorem tg_ok {G : Hp} {env : En} {σ : L2.St} {H1 : Hp} {t : Tg} {r : R} {v : V} {Q : En → Prop} {Qs : L2.St → Hp → Prop} (R : RelO C G env σ H) (s : Same H H1) (p : RepR C (Own env σ) H H1 r v)
    (hq : ∀ env' σ', RelO C G env' σ' H1 → Q env' → Off (tgS t) σ σ' → OffE (tgS t) env env' → Qs σ' H1) (h : tgW t r env Q) : rdTg C.K t v σ H1 Qs := by
  have an : ∀ {env' : En} {σ' : L2.St} {f : Fl} {d : D} {u : V}, (∀ a, Own env' σ' a → Own env σ a) → Rep C (Pf C (Own env σ) f) H1 d u → Rep C (Pf C (Own env' σ') f) H1 d u := fun o r => r.imp fun a _ q => q.anti fun _ z => o a z
  cases t with
  | nm i =>
    obtain ⟨sl, q, R'⟩ := R.setR s p (show slW r (fun s => Q (env.set i s)) from h)
    exact hq _ _ R' q ((Off.refl _ _).set (by simp [tgS])) ((OffE.refl _ _).set (by simp [tgS]))
  | t2 i j =>
    simp only [tgW] at h
    split at h
    · rename_i a b e
      obtain ⟨ad, vs, rfl, h1, t⟩ := p.tup e
      obtain ⟨va, vb, rfl, ra, rb⟩ := repL2 t
      obtain ⟨e1, h, R1, o1, x1, rfl⟩ := put1_ok (R.same s) ra h
      obtain ⟨e2, h, R2, o2, x2, rfl⟩ := put1_ok R1 (an o1 rb) h
      exact .inl ⟨ad, [va, vb], rfl, h1, rfl, va, [vb], rfl, vb, [], rfl, rfl, hq _ _ R2 h (((Off.refl _ _).set (by simp [tgS])).set (by simp [tgS])) (((OffE.refl _ _).set (by simp [tgS])).set (by simp [tgS]))⟩
    · rename_i a b e
      obtain ⟨ad, vs, rfl, h0, t⟩ := p.lst e
      obtain ⟨va, vb, rfl, ra, rb⟩ := repL2 t
      obtain ⟨e1, h, R1, o1, x1, rfl⟩ := put1_ok (R.same s) ra h
      obtain ⟨e2, h, R2, o2, x2, rfl⟩ := put1_ok R1 (an o1 rb) h
      exact .inr ⟨ad, [va, vb], rfl, .inl (.inl h0), rfl, va, [vb], rfl, vb, [], rfl, rfl, hq _ _ R2 h (((Off.refl _ _).set (by simp [tgS])).set (by simp [tgS])) (((OffE.refl _ _).set (by simp [tgS])).set (by simp [tgS]))⟩
    · exact h.elim
  | t3 i j k =>
    simp only [tgW] at h
    split at h
    · rename_i a b c e
      obtain ⟨ad, vs, rfl, h1, t⟩ := p.tup e
      obtain ⟨va, vb, vc, rfl, ra, rb, rc⟩ := repL3 t
      obtain ⟨e1, h, R1, o1, x1, rfl⟩ := put1_ok (R.same s) ra h
      obtain ⟨e2, h, R2, o2, x2, rfl⟩ := put1_ok R1 (an o1 rb) h
      obtain ⟨e3, h, R3, o3, x3, rfl⟩ := put1_ok R2 (an (fun a z => o1 a (o2 a z)) rc) h
      exact .inl ⟨ad, [va, vb, vc], rfl, h1, rfl, va, [vb, vc], rfl, vb, [vc], rfl, vc, [], rfl, rfl, hq _ _ R3 h ((((Off.refl _ _).set (by simp [tgS])).set (by simp [tgS])).set (by simp [tgS])) ((((OffE.refl _ _).set (by simp [tgS])).set (by simp [tgS])).set (by simp [tgS]))⟩
    · rename_i a b c e
      obtain ⟨ad, vs, rfl, h0, t⟩ := p.lst e
      obtain ⟨va, vb, vc, rfl, ra, rb, rc⟩ := repL3 t
      obtain ⟨e1, h, R1, o1, x1, rfl⟩ := put1_ok (R.same s) ra h
      obtain ⟨e2, h, R2, o2, x2, rfl⟩ := put1_ok R1 (an o1 rb) h
      obtain ⟨e3, h, R3, o3, x3, rfl⟩ := put1_ok R2 (an (fun a z => o1 a (o2 a z)) rc) h
      exact .inr ⟨ad, [va, vb, vc], rfl, .inl (.inl h0), rfl, va, [vb, vc], rfl, vb, [vc], rfl, vc, [], rfl, rfl, hq _ _ R3 h ((((Off.refl _ _).set (by simp [tgS])).set (by simp [tgS])).set (by simp [tgS])) ((((OffE.refl _ _).set (by simp [tgS])).set (by simp [tgS])).set (by simp [tgS]))⟩
    · exact h.elim
  | t4 i j k l =>
    simp only [tgW] at h
    split at h
    · rename_i a b c d e
      obtain ⟨ad, vs, rfl, h1, t⟩ := p.tup e
      obtain ⟨va, vb, vc, vd, rfl, ra, rb, rc, rd⟩ := repL4 t
      obtain ⟨e1, h, R1, o1, x1, rfl⟩ := put1_ok (R.same s) ra h
      obtain ⟨e2, h, R2, o2, x2, rfl⟩ := put1_ok R1 (an o1 rb) h
      obtain ⟨e3, h, R3, o3, x3, rfl⟩ := put1_ok R2 (an (fun a z => o1 a (o2 a z)) rc) h
      obtain ⟨e4, h, R4, o4, x4, rfl⟩ := put1_ok R3 (an (fun a z => o1 a (o2 a (o3 a z))) rd) h
      exact .inl ⟨ad, [va, vb, vc, vd], rfl, h1, rfl, va, [vb, vc, vd], rfl, vb, [vc, vd], rfl, vc, [vd], rfl, vd, [], rfl, rfl, hq _ _ R4 h (((((Off.refl _ _).set (by simp [tgS])).set (by simp [tgS])).set (by simp [tgS])).set (by simp [tgS])) (((((OffE.refl _ _).set (by simp [tgS])).set (by simp [tgS])).set (by simp [tgS])).set (by simp [tgS]))⟩
    · rename_i a b c d e
      obtain ⟨ad, vs, rfl, h0, t⟩ := p.lst e
      obtain ⟨va, vb, vc, vd, rfl, ra, rb, rc, rd⟩ := repL4 t
      obtain ⟨e1, h, R1, o1, x1, rfl⟩ := put1_ok (R.same s) ra h
      obtain ⟨e2, h, R2, o2, x2, rfl⟩ := put1_ok R1 (an o1 rb) h
      obtain ⟨e3, h, R3, o3, x3, rfl⟩ := put1_ok R2 (an (fun a z => o1 a (o2 a z)) rc) h
      obtain ⟨e4, h, R4, o4, x4, rfl⟩ := put1_ok R3 (an (fun a z => o1 a (o2 a (o3 a z))) rd) h
      exact .inr ⟨ad, [va, vb, vc, vd], rfl, .inl (.inl h0), rfl, va, [vb, vc, vd], rfl, vb, [vc, vd], rfl, vc, [vd], rfl, vd, [], rfl, rfl, hq _ _ R4 h (((((Off.refl _ _).set (by simp [tgS])).set (by simp [tgS])).set (by simp [tgS])).set (by simp [tgS])) (((((OffE.refl _ _).set (by simp [tgS])).set (by simp [tgS])).set (by simp [tgS])).set (by simp [tgS]))⟩
    · exact h.elim
  | tt i j k l =>
    simp only [tgW] at h
    split at h
    · rename_i a b c d e
      obtain ⟨ad, vs, rfl, h1, t⟩ := p.tup e
      obtain ⟨vx, vy, rfl, rx, ry⟩ := repL2 t
      cases rx with
      | tup h2 hl2 he2 =>
      cases ry with
      | tup h3 hl3 he3 =>
      obtain ⟨va, vb, rfl, ra, rb⟩ := repL2 ⟨hl2, he2⟩
      obtain ⟨vc, vd, rfl, rc, rd⟩ := repL2 ⟨hl3, he3⟩
      obtain ⟨e1, h, R1, o1, x1, rfl⟩ := put1_ok (R.same s) ra h
      obtain ⟨e2, h, R2, o2, x2, rfl⟩ := put1_ok R1 (an o1 rb) h
      obtain ⟨e3, h, R3, o3, x3, rfl⟩ := put1_ok R2 (an (fun a z => o1 a (o2 a z)) rc) h
      obtain ⟨e4, h, R4, o4, x4, rfl⟩ := put1_ok R3 (an (fun a z => o1 a (o2 a (o3 a z))) rd) h
      exact ⟨ad, _, rfl, h1, rfl, _, _, rfl, ⟨_, [va, vb], rfl, h2, rfl, va, [vb], rfl, vb, [], rfl, rfl, _, _, rfl, ⟨_, [vc, vd], rfl, h3, rfl, vc, [vd], rfl, vd, [], rfl, rfl, rfl, hq _ _ R4 h (((((Off.refl _ _).set (by simp [tgS])).set (by simp [tgS])).set (by simp [tgS])).set (by simp [tgS])) (((((OffE.refl _ _).set (by simp [tgS])).set (by simp [tgS])).set (by simp [tgS])).set (by simp [tgS]))⟩⟩⟩
    · exact h.elim
end
end Dv

namespace Dv
open PySem PySem.Spec PyProof.Rows L2
section
variable {C : Cc} {W : WX} {O : Addr → Prop} {H Hb : Hp}

/-! ### calls of defs -/
def calleeC (K : PySem.W.Frag) (ca : CaL) (S : Addr → List Int → Prop) (A : Addr → Prop) (H : Hp) : Cc := ⟨K, S, fun _ _ _ => False, A, fun _ => False, H, ca⟩
/-- a told spec as a promise of the layer -/
def spOf (K : PySem.W.Frag) (ca : CaL) (n : Nat) (sp : FSpec) : Sp := fun vs H Q E => ∃ (ds : List D) (S : Addr → List Int → Prop) (A : Addr → Prop), vs.length = n ∧ (∀ a ns, S a ns → SqL K H a (ns.map V.int)) ∧
  RepL (calleeC K ca S A H) A H ds vs ∧ ∃ Qo : Out → Prop, sp ds Qo ∧ ∀ o, Qo o → match o with
    | .ret r => ∀ v H', Same H H' → RepR (calleeC K ca S A H) (fun _ => False) H H' r v → Q v H'
    | .exn x => ∀ cls d H', Same H H' → RepX (calleeC K ca S A H) H' x cls d → E cls d H'
theorem de_call {K : PySem.W.Frag} {ca : CaL} {n : Nat} {sp : FSpec} {ta : TA} {wa : En → (List R → Prop) → (Exn → Prop) → Prop} (hK : C.K = K) (hca : C.ca = ca) (ha : DA C W n ta wa) : DE C W (tCallS (spOf K ca n sp) (WE W) ta) (fun env Q X => wa env (fun rs => callW sp rs Q X) X) := by
  subst hK hca
  intro G env σ H Q Qx Qv RO hx hq h
  refine ha G env σ H _ Qx _ RO hx ?_ h
  intro vs H1 rs s1 hl p1 h1
  have R1 := RO.same s1
  have fr := R1.fr
  have cx : ∀ {P : Addr → Prop} {Hx : Hp} {d : D} {v : V}, Rep C P Hx d v → Rep (calleeC C.K C.ca C.S (Pf C (Own env σ) (flAll rs)) H1) P Hx d v := fun {P Hx d v} r => @Rep.ctx C (calleeC C.K C.ca C.S (Pf C (Own env σ) (flAll rs)) H1) P Hx rfl (fun _ _ z => z) d v r
  have cb : ∀ {P : Addr → Prop} {Hx : Hp} {d : D} {v : V}, Rep (calleeC C.K C.ca C.S (Pf C (Own env σ) (flAll rs)) H1) P Hx d v → Rep C P Hx d v := fun {P Hx d v} r => @Rep.ctx (calleeC C.K C.ca C.S (Pf C (Own env σ) (flAll rs)) H1) C P Hx rfl (fun _ _ z => z) d v r
  have pn : ∀ {f : Fl} {a : Addr}, H1 a = none → Pf C (Own env σ) f a := fun {f a} e => by
    obtain ⟨⟨b1, b2⟩, b3⟩ := fr a e
    cases f
    · exact b1
    · exact ⟨b1, b2, .inr b3⟩
    · exact ⟨b1, b2, b3⟩
  refine ⟨rs.map R.d, C.S, Pf C (Own env σ) (flAll rs), hl, fun a ns z => R1.scrH z, ⟨(fl_inf_all (P := fun _ => True) p1).1, fun i d v e1 e2 => cx ((fl_inf_all (P := fun _ => True) p1).2 i d v e1 e2)⟩, _, h1, ?_⟩
  intro o ho
  cases o with
  | exn x =>
    intro cls d H' s r
    exact hx x cls d H' (s1.trans s) r ho
  | ret r =>
    intro v H' s p
    have s2 := s1.trans s
    have conv : ∀ {f : Fl} {d : D} {v : V}, f = .fro → Rep (calleeC C.K C.ca C.S (Pf C (Own env σ) (flAll rs)) H1) (Pf (calleeC C.K C.ca C.S (Pf C (Own env σ) (flAll rs)) H1) (fun _ => False) f) H' d v → Rep C (Pf C (Own env σ) .fro) H' d v := fun e r => by
      subst e
      exact (cb r).imp fun a _ q => pn q.2.2
    have conA : ∀ {f : Fl} {d : D} {v : V}, f = .arg → Rep (calleeC C.K C.ca C.S (Pf C (Own env σ) (flAll rs)) H1) (Pf (calleeC C.K C.ca C.S (Pf C (Own env σ) (flAll rs)) H1) (fun _ => False) f) H' d v → Rep C (Pf C (Own env σ) (flAll rs)) H' d v := fun e r => by
      subst e
      exact (cb r).imp fun a _ q => q.2.2.elim (fun z => z) fun z => pn z
    have ow : ∀ {P P' : Addr → Prop} {a : Addr} {d : D}, (∀ b, P b → P' b) → OwnR (calleeC C.K C.ca C.S (Pf C (Own env σ) (flAll rs)) H1) P H' a d → OwnR C P' H' a d := fun {P P' a d} hp z => by
      cases d with
      | lst ds => obtain ⟨vs, e, t1, t2⟩ := z; exact ⟨vs, e, t1, fun i d v e1 e2 => (cb (t2 i d v e1 e2)).imp fun b _ q => ⟨hp b q.1, q.2⟩⟩
      | dic kvs => obtain ⟨vs, e, t1, t2⟩ := z; exact ⟨vs, e, t1, fun i d v e1 e2 => (cb (t2 i d v e1 e2)).imp fun b _ q => ⟨hp b q.1, q.2⟩⟩
      | _ => exact z
    cases r with
    | v f d =>
      cases f with
      | bor => exact ho.elim
      | arg => exact hq v H' _ s2 (show RepR C _ _ H' (.v (flAll rs) d) v from conA rfl p) ho
      | fro => exact hq v H' _ s2 (show RepR C _ _ H' (.v .fro d) v from conv rfl p) ho
    | b f d => exact (show False from ho).elim
    | n f d =>
      obtain ⟨a, rfl, h1a, h2a, h3a⟩ := p
      have na : H1 a = none := h1a.1
      have fa := fr a na
      cases f with
      | bor => exact ho.elim
      | arg =>
        refine hq _ H' _ s2 (show RepR C _ _ H' (.n (flAll rs) d) (.ref a) from ⟨a, rfl, ⟨s1.free na, fa.1⟩, fa.2, ow (fun b q => ?_) h3a⟩) ho
        exact q.2.2.elim (fun z => z) fun z => pn z
      | fro =>
        refine hq _ H' _ s2 (show RepR C _ _ H' (.n .fro d) (.ref a) from ⟨a, rfl, ⟨s1.free na, fa.1⟩, fa.2, ow (fun b q => ?_) h3a⟩) ho
        exact pn q.2.2

/-! ### built-in functions -/
def rDm : List V → Hp → VK → Prop := fun xs H Q => ∃ i j, xs = [.int i, .int j] ∧ CDivP i j ∧ ∀ p, H p = none → Q (.ref p) (upd H p (.tup [.int (i / j), .int (i % j)]))
def rLenD : List V → Hp → VK → Prop := fun xs H Q => ∃ p kvs, xs = [.ref p] ∧ H p = some (.dK kvs) ∧ Q (.int kvs.length) H
def rMinN : List V → Hp → VK → Prop := fun xs H Q => (∃ i j k, xs = [.int i, .int j, .int k] ∧ Q (.int (minL i [j, k])) H) ∨ ∃ i j k l, xs = [.int i, .int j, .int k, .int l] ∧ Q (.int (minL i [j, k, l])) H
def rBi (K : PySem.W.Frag) : Bi → List V → Hp → VK → Prop
  | .abs => fun xs H Q => ∃ i, xs = [.int i] ∧ Q (.int (if i < 0 then -i else i)) H
  | .len => fun xs H Q => ∃ x n, xs = [x] ∧ LenV K x H n ∧ Q (.int n) H
  | .max => fun xs H Q => (∃ i j, xs = [.int i, .int j] ∧ Q (.int (if j > i then j else i)) H) ∨ rMax K xs H Q
  | .min => fun xs H Q => (∃ i j, xs = [.int i, .int j] ∧ Q (.int (if j < i then j else i)) H) ∨ rMin K xs H Q ∨ rMinN xs H Q
  | .sum => rSum K
  | .list => fun xs H Q => (∃ p ys, xs = [.ref p] ∧ (SqL K H p ys ∨ SqT K H p ys) ∧ ∀ l, H l = none → Q (.ref l) (upd H l (.lst ys))) ∨ rListD xs H Q
  | .sorted => fun xs H Q => rSortedI K xs H Q ∨ rSortedS K xs H Q
  | .tuple => fun xs H Q => ∃ p ys, xs = [.ref p] ∧ ((SqL K H p ys ∧ ∀ l, H l = none → Q (.ref l) (upd H l (.tup ys))) ∨ (SqT K H p ys ∧ Q (.ref p) H))
  | .all => rAll K
  | .any => rAny K
  | .int => fun xs H Q => ((∃ i, xs = [.int i] ∧ Q (.int i) H) ∨ ∃ k, xs = [.bl k] ∧ Q (.int (if k then 1 else 0)) H) ∨ ∃ a n, xs = [.str a] ∧ PySem.intText? a = some n ∧ a.length ≤ 640 ∧ Q (.int n) H
  | .str => fun xs H Q => ∃ i, xs = [.int i] ∧ i.natAbs.log2 < 1920 ∧ Q (.str (toString i)) H
  | .divmod => rDm
  | _ => fun _ _ _ => False
def biTy : Bi → Bool
  | .list => true
  | .tuple => true
  | .int => true
  | .str => true
  | _ => false
theorem insS_perm (x : Int) : ∀ ys : List Int, (insS x ys).Perm (x :: ys)
  | [] => .refl _
  | y :: r => by
    simp only [insS]
    split
    · exact .refl _
    · exact ((insS_perm x r).cons y).trans (.swap x y r)
theorem sortI_perm : ∀ ys : List Int, (sortI ys).Perm ys
  | [] => .refl _
  | y :: r => (insS_perm y (sortI r)).trans ((sortI_perm r).cons y)
theorem insS_sorted (x : Int) : ∀ ys : List Int, ys.Pairwise (· ≤ ·) → (insS x ys).Pairwise (· ≤ ·)
  | [], _ => List.pairwise_singleton _ _
  | y :: r, h => by
    simp only [insS]
    have h' := List.pairwise_cons.mp h
    split
    · rename_i c
      refine List.pairwise_cons.mpr ⟨fun z hz => ?_, h⟩
      rcases List.mem_cons.mp hz with rfl | hz
      · exact c
      · exact Int.le_trans c (h'.1 z hz)
    · rename_i c
      refine List.pairwise_cons.mpr ⟨fun z hz => ?_, insS_sorted x r h'.2⟩
      rcases List.mem_cons.mp ((insS_perm x r).mem_iff.mp hz) with rfl | hz
      · omega
      · exact h'.1 z hz
theorem sortI_sorted : ∀ ys : List Int, (sortI ys).Pairwise (· ≤ ·)
  | [] => .nil
  | y :: r => insS_sorted y _ (sortI_sorted r)
theorem sortI_eq {xs ys : List Int} (p : ys.Perm xs) (h : ys.Pairwise (· ≤ ·)) : ys = sortI xs :=
  List.Perm.eq_of_pairwise (fun _ _ _ _ h1 h2 => Int.le_antisymm h1 h2) h (sortI_sorted xs) (p.trans (sortI_perm xs).symm)
theorem intsOf_back : ∀ ns : List Int, RepL C (fun _ => False) H (ns.map D.int) (ns.map V.int)
  | [] => .nil
  | n :: r => .cons (.int n) (intsOf_back r)
theorem keys_rep {P : Addr → Prop} : ∀ ks : List Key, RepL C P H (ks.map keyD) (ks.map kV)
  | [] => .nil
  | .inl n :: r => .cons (.int n) (keys_rep r)
  | .inr n :: r => .cons (.str n) (keys_rep r)
theorem maxL_ok : ∀ (ns : List Int) (m x : Int), (∀ y, y ∈ m :: ns → y ≤ x) → x ∈ m :: ns → maxL m ns = x
  | [], m, x, _, h2 => by simp at h2; simp [maxL, h2]
  | n :: ns, m, x, h1, h2 => by
    simp only [maxL]
    by_cases c : n > m
    · rw [if_pos c]
      refine maxL_ok ns n x (fun y hy => h1 y (by simp at hy ⊢; rcases hy with h | h <;> simp [h])) ?_
      simp at h2 ⊢
      rcases h2 with rfl | h2 | h2
      · have := h1 n (by simp); omega
      · exact .inl h2
      · exact .inr h2
    · rw [if_neg c]
      refine maxL_ok ns m x (fun y hy => h1 y (by simp at hy ⊢; rcases hy with h | h <;> simp [h])) ?_
      simp at h2 ⊢
      rcases h2 with h2 | rfl | h2
      · exact .inl h2
      · have := h1 m (by simp); exact .inl (by omega)
      · exact .inr h2
theorem minL_ok : ∀ (ns : List Int) (m x : Int), (∀ y, y ∈ m :: ns → x ≤ y) → x ∈ m :: ns → minL m ns = x
  | [], m, x, _, h2 => by simp at h2; simp [minL, h2]
  | n :: ns, m, x, h1, h2 => by
    simp only [minL]
    by_cases c : n < m
    · rw [if_pos c]
      refine minL_ok ns n x (fun y hy => h1 y (by simp at hy ⊢; rcases hy with h | h <;> simp [h])) ?_
      simp at h2 ⊢
      rcases h2 with rfl | h2 | h2
      · have := h1 n (by simp); omega
      · exact .inl h2
      · exact .inr h2
    · rw [if_neg c]
      refine minL_ok ns m x (fun y hy => h1 y (by simp at hy ⊢; rcases hy with h | h <;> simp [h])) ?_
      simp at h2 ⊢
      rcases h2 with h2 | rfl | h2
      · exact .inl h2
      · have := h1 m (by simp); exact .inl (by omega)
      · exact .inr h2
theorem ints_vs {P : Addr → Prop} : ∀ {ds : List D} {vs : List V} {ns : List Int}, RepL C P H ds vs → intsOf ds = some ns → vs = ns.map V.int
  | [], vs, ns, t, h => by
    have e : vs = [] := by have := t.1; simpa using this.symm
    simp [intsOf] at h
    subst h e
    rfl
  | d :: ds, [], ns, t, h => by have := t.1; simp at this
  | d :: ds, v :: vs, ns, t, h => by
    cases d with
    | int i =>
      simp only [intsOf, Option.map_eq_some_iff] at h
      obtain ⟨r, hr, rfl⟩ := h
      have e := ints_vs t.tail hr
      have e2 := t.head
      cases e2
      rw [e]
      rfl
    | _ => simp [intsOf] at h
theorem strs_vs {P : Addr → Prop} : ∀ {ds : List D} {vs : List V} {ns : List Str}, RepL C P H ds vs → strsOf ds = some ns → vs = ns.map V.str
  | [], vs, ns, t, h => by
    have e : vs = [] := by have := t.1; simpa using this.symm
    simp [strsOf] at h
    subst h e
    rfl
  | d :: ds, [], ns, t, h => by have := t.1; simp at this
  | d :: ds, v :: vs, ns, t, h => by
    cases d with
    | str i =>
      simp only [strsOf, Option.map_eq_some_iff] at h
      obtain ⟨r, hr, rfl⟩ := h
      have e := strs_vs t.tail hr
      have e2 := t.head
      cases e2
      rw [e]
      rfl
    | _ => simp [strsOf] at h
theorem strs_back {P : Addr → Prop} : ∀ ns : List Str, RepL C P H (ns.map D.str) (ns.map V.str)
  | [] => .nil
  | n :: r => .cons (.str n) (strs_back r)
theorem bls_vs {P : Addr → Prop} : ∀ {ds : List D} {vs : List V} {ns : List Bool}, RepL C P H ds vs → blsOf ds = some ns → vs = ns.map V.bl
  | [], vs, ns, t, h => by
    have e : vs = [] := by have := t.1; simpa using this.symm
    simp [blsOf] at h
    subst h e
    rfl
  | d :: ds, [], ns, t, h => by have := t.1; simp at this
  | d :: ds, v :: vs, ns, t, h => by
    cases d with
    | bl i =>
      simp only [blsOf, Option.map_eq_some_iff] at h
      obtain ⟨r, hr, rfl⟩ := h
      have e := bls_vs t.tail hr
      have e2 := t.head
      cases e2
      rw [e]
      rfl
    | _ => simp [blsOf] at h
theorem divP_of {i j : Int} (h0 : 0 < j) (h : j.natAbs.log2 < 9000) : CDivP i j := ⟨h0, PyProof.noPylong_of_log2 h⟩
theorem bi_ok {b : Bi} {xs : List R} {vs : List V} {Q : R → Prop} {Qv : VK} (fr : Fr C O H) (hS : ∀ a ns, C.S a ns → SqL C.K H a (ns.map V.int)) (pp : Paired (RepR C O Hb H) xs vs)
    (hq : ∀ v H' z, Same H H' → RepR C O H H' z v → Q z → Qv v H') (h : biW b xs Q) : rBi C.K b vs H Qv := by
  unfold biW at h
  split at h
  · rename_i x
    obtain ⟨v, rfl, p⟩ := paired1 pp
    split at h
    · rename_i i e
      exact ⟨i, by rw [p.int e], hq _ H _ (Same.refl H) repI h⟩
    · exact h.elim
  · rename_i x
    obtain ⟨v, rfl, p⟩ := paired1 pp
    split at h
    · rename_i ds e
      obtain ⟨a, vs, rfl, h1, t⟩ := p.lst e
      exact ⟨_, _, rfl, .inl ⟨vs, .inl (.inl h1), rfl⟩, by rw [← t.1]; exact hq _ H _ (Same.refl H) repI h⟩
    · rename_i ds e
      obtain ⟨a, vs, rfl, h1, t⟩ := p.tup e
      exact ⟨_, _, rfl, .inr ⟨vs, h1, rfl⟩, by rw [← t.1]; exact hq _ H _ (Same.refl H) repI h⟩
    · rename_i ns e
      obtain ⟨a, rfl, h1⟩ := p.scr e
      exact ⟨_, _, rfl, .inl ⟨_, hS _ _ h1, rfl⟩, by rw [List.length_map]; exact hq _ H _ (Same.refl H) repI h⟩
    · exact h.elim
    · rename_i z e
      have ez := p.str e
      subst ez
      exact ⟨_, z.length, rfl, ⟨by rw [← line_eq]; exact h.1, rfl⟩, hq _ H _ (Same.refl H) repI h.2⟩
    · exact h.elim
  · rename_i x y
    obtain ⟨v, u, rfl, p1, p2⟩ := paired2 pp
    split at h
    · rename_i i j e1 e2
      exact .inl ⟨i, j, by rw [p1.int e1, p2.int e2], hq _ H _ (Same.refl H) repI h⟩
    · exact h.elim
  · rename_i x y
    obtain ⟨v, u, rfl, p1, p2⟩ := paired2 pp
    split at h
    · rename_i i j e1 e2
      exact .inl ⟨i, j, by rw [p1.int e1, p2.int e2], hq _ H _ (Same.refl H) repI h⟩
    · exact h.elim
  · rename_i x y z
    obtain ⟨v, u, w, rfl, p1, p2, p3⟩ := paired3 pp
    split at h
    · rename_i i j k e1 e2 e3
      exact .inr (.inr (.inl ⟨i, j, k, by rw [p1.int e1, p2.int e2, p3.int e3], hq _ H _ (Same.refl H) repI h⟩))
    · exact h.elim
  · rename_i x y z t
    obtain ⟨v, u, w, r, rfl, p1, p2, p3, p4⟩ := paired4 pp
    split at h
    · rename_i i j k l e1 e2 e3 e4
      exact .inr (.inr (.inr ⟨i, j, k, l, by rw [p1.int e1, p2.int e2, p3.int e3, p4.int e4], hq _ H _ (Same.refl H) repI h⟩))
    · exact h.elim
  · rename_i x
    obtain ⟨v, rfl, p⟩ := paired1 pp
    split at h
    · rename_i ds e
      split at h
      · rename_i i r e2
        obtain ⟨a, vs, rfl, h1, t⟩ := p.lst e
        have e3 := ints_vs t e2
        refine .inr ⟨a, i :: r, rfl, by rw [← e3]; exact .inl (.inl h1), by simp, fun m hm hy => ?_⟩
        rw [← maxL_ok r i m hy hm]
        exact hq _ H _ (Same.refl H) repI h
      · exact h.elim
    · exact h.elim
  · rename_i x
    obtain ⟨v, rfl, p⟩ := paired1 pp
    split at h
    · rename_i ds e
      split at h
      · rename_i i r e2
        obtain ⟨a, vs, rfl, h1, t⟩ := p.lst e
        have e3 := ints_vs t e2
        refine .inr (.inl ⟨a, i :: r, rfl, by rw [← e3]; exact .inl (.inl h1), by simp, fun m hm hy => ?_⟩)
        rw [← minL_ok r i m hy hm]
        exact hq _ H _ (Same.refl H) repI h
      · exact h.elim
    · exact h.elim
  · rename_i x
    obtain ⟨v, rfl, p⟩ := paired1 pp
    split at h
    · rename_i ds e
      split at h
      · rename_i r e2
        obtain ⟨a, vs, rfl, h1, t⟩ := p.lst e
        have e3 := ints_vs t e2
        exact ⟨a, r, rfl, by rw [← e3]; exact .inl (.inl h1), hq _ H _ (Same.refl H) repI h⟩
      · exact h.elim
    · exact h.elim
  · rename_i x
    obtain ⟨v, rfl, p⟩ := paired1 pp
    split at h
    · rename_i ds e
      obtain ⟨a, vs, rfl, _, h1, t⟩ := p.lstE e
      exact .inl ⟨a, vs, rfl, .inl (.inl (.inl h1)), fun l hl => hq _ _ _ (same_upd hl) (newL fr hl t) h⟩
    · rename_i ds e
      obtain ⟨a, vs, rfl, h1, t⟩ := p.tup e
      exact .inl ⟨a, vs, rfl, .inr h1, fun l hl => hq _ _ _ (same_upd hl) (newL fr hl t) h⟩
    · rename_i kvs e
      obtain ⟨a, vs, rfl, h1, t⟩ := p.dic e
      have e2 : (kvs.map fun kv => keyD kv.1) = (vs.map (·.1)).map keyD := by rw [← t.1, List.map_map]; rfl
      have e3 : (vs.map fun kv => kV kv.1) = (vs.map (·.1)).map kV := by rw [List.map_map]; rfl
      refine .inr ⟨a, vs, rfl, h1, fun l hl => hq _ _ _ (same_upd hl) ?_ h⟩
      rw [e3]
      exact newL (f := .fro) fr hl (by rw [e2]; exact keys_rep _)
    · exact h.elim
  · rename_i x
    obtain ⟨v, rfl, p⟩ := paired1 pp
    split at h
    · rename_i ds e
      split at h
      · rename_i r e2
        obtain ⟨a, vs, rfl, h1, t⟩ := p.lst e
        have e3 := ints_vs t e2
        refine .inl ⟨a, r, rfl, by rw [← e3]; exact .inl (.inl h1), fun ns l hp hs hl => ?_⟩
        rw [sortI_eq hp hs]
        exact hq _ _ _ (same_upd hl) (newL (f := .fro) fr hl ((intsOf_back _).map fun _ _ z => z.imp fun _ _ q => q.elim)) h
      · split at h
        · rename_i r e2
          obtain ⟨a, vs, rfl, h1, t⟩ := p.lst e
          have e3 := strs_vs t e2
          exact .inr ⟨a, r, rfl, by rw [← e3]; exact .inl (.inl h1), h.1, fun ys l hp hs hl => hq _ _ _ (same_upd hl) (newL (f := .fro) fr hl (strs_back ys)) (h.2 ys hp hs)⟩
        · exact h.elim
    · exact h.elim
  · rename_i x
    obtain ⟨v, rfl, p⟩ := paired1 pp
    split at h
    · rename_i ds e
      obtain ⟨a, vs, rfl, _, h1, t⟩ := p.lstE e
      exact ⟨a, vs, rfl, .inl ⟨.inl (.inl h1), fun l hl => hq _ _ _ (same_upd hl) (newT hl t) h⟩⟩
    · rename_i ds e
      obtain ⟨a, vs, rfl, h1, t⟩ := p.tup e
      refine ⟨a, vs, rfl, .inr ⟨h1, hq _ H _ (Same.refl H) (show RepR C O H H (.v x.fl (.tup ds)) (.ref a) from Rep.tup h1 t.1 t.2) h⟩⟩
    · exact h.elim
  · rename_i x
    obtain ⟨v, rfl, p⟩ := paired1 pp
    split at h
    · rename_i ds e
      split at h
      · rename_i r e2
        obtain ⟨a, vs, rfl, h1, t⟩ := p.lst e
        have e3 := bls_vs t e2
        exact ⟨a, r, rfl, by rw [← e3]; exact .inl (.inl h1), hq _ H _ (Same.refl H) repB h⟩
      · exact h.elim
    · exact h.elim
  · rename_i x
    obtain ⟨v, rfl, p⟩ := paired1 pp
    split at h
    · rename_i ds e
      split at h
      · rename_i r e2
        obtain ⟨a, vs, rfl, h1, t⟩ := p.lst e
        have e3 := bls_vs t e2
        exact ⟨a, r, rfl, by rw [← e3]; exact .inl (.inl h1), hq _ H _ (Same.refl H) repB h⟩
      · exact h.elim
    · exact h.elim
  · rename_i x
    obtain ⟨v, rfl, p⟩ := paired1 pp
    split at h
    · rename_i i e
      exact .inl (.inl ⟨i, by rw [p.int e], hq _ H _ (Same.refl H) repI h⟩)
    · rename_i i e
      exact .inl (.inr ⟨i, by rw [p.bl e], hq _ H _ (Same.refl H) repI h⟩)
    · rename_i a e
      obtain ⟨h1, h⟩ := h
      split at h
      · rename_i n en
        exact .inr ⟨a, n, by rw [p.str e], en, h1, hq _ H _ (Same.refl H) repI h⟩
      · exact h.elim
    · exact h.elim
  · rename_i x
    obtain ⟨v, rfl, p⟩ := paired1 pp
    split at h
    · rename_i i e
      exact ⟨i, by rw [p.int e], h.1, hq _ H _ (Same.refl H) repS h.2⟩
    · exact h.elim
  · rename_i x y
    obtain ⟨v, u, rfl, p1, p2⟩ := paired2 pp
    split at h
    · rename_i i j e1 e2
      refine ⟨i, j, by rw [p1.int e1, p2.int e2], divP_of h.1.1 h.1.2, fun l hl => hq _ _ _ (same_upd hl) (newT (f := .fro) hl (.cons (.int _) (.cons (.int _) .nil))) h.2⟩
    · exact h.elim
  · exact h.elim
  · exact h.elim
theorem de_bi {b : Bi} {ta : TA} {wa : En → (List R → Prop) → (Exn → Prop) → Prop} {n : Nat} (ha : DA C W n ta wa) : DE C W (tCB (rBi C.K b) ta) (fun env Q X => wa env (fun rs => biW b rs Q) X) := by
  intro G env σ H Q Qx Qv R hx hq h
  refine ha G env σ H _ Qx _ R hx ?_ h
  intro vs H1 rs s1 l1 p1 h1
  exact bi_ok (R.same s1).fr (fun a ns z => (R.same s1).scrH z) p1 (fun v H' z s p q => hq v H' z (s1.trans s) (p.back s1) q) h1
end
end Dv

namespace Dv
open PySem PySem.Spec PyProof.Rows L2
section
variable {C : Cc} {W : WX} {O : Addr → Prop} {H Hb : Hp}

theorem wipeE_get : ∀ (vs : List Nat) (env : En) (k : Nat), (wipeE env vs)[k]? = if k ∈ vs then (if k < env.length then some .e else none) else env[k]?
  | [], env, k => by simp
  | v :: vs, env, k => by
    have hl : (wipeE env vs).length = env.length := by
      induction vs with
      | nil => rfl
      | cons a r ih => simp [ih]
    rw [wipe_cons, List.getElem?_set, wipeE_get vs env k, hl]
    by_cases h : v = k
    · subst h; simp
    · rw [if_neg h]
      have hk : ¬ k = v := fun e => h e.symm
      simp only [List.mem_cons, hk, false_or]
theorem wipeE_len (env : En) : ∀ vs : List Nat, (wipeE env vs).length = env.length
  | [] => rfl
  | v :: vs => by simp [wipeE_len env vs]
theorem notOwn_get {env : En} : ∀ {is : List Nat}, notOwn env is → ∀ i, i ∈ is → ∀ f d, env[i]? ≠ some (.o f d)
  | j :: r, h, i, hi, f, d => fun e => by
    rcases List.mem_cons.mp hi with rfl | hi
    · have h1 := h.1
      rw [e] at h1
      exact h1
    · exact notOwn_get h.2 i hi f d e
theorem own_wipe {env : En} {σ : L2.St} {is : List Nat} (h : notOwn env is) (a : Addr) : Own (wipeE env is) (wipe σ is) a ↔ Own env σ a := by
  constructor
  · rintro ⟨i, f, d, e1, e2⟩
    rw [wipeE_get] at e1
    rw [wipe_get] at e2
    by_cases hi : i ∈ is
    · rw [if_pos hi] at e1
      split at e1 <;> cases e1
    · rw [if_neg hi] at e1 e2
      exact ⟨i, f, d, e1, e2⟩
  · rintro ⟨i, f, d, e1, e2⟩
    have hi : ¬ i ∈ is := fun hi => notOwn_get h i hi f d e1
    exact ⟨i, f, d, by rw [wipeE_get, if_neg hi]; exact e1, by rw [wipe_get, if_neg hi]; exact e2⟩
/-- a comprehension's own names forgotten -/
theorem RelO.wipe {G : Hp} {env : En} {σ : L2.St} {is : List Nat} (R : RelO C G env σ H) (h : notOwn env is) : RelO C G (wipeE env is) (L2.wipe σ is) H := by
  refine ⟨by rw [wipeE_len, wipe_length, R.len], R.h0, R.g, R.scr, fun a z => R.own a ((own_wipe h a).mp z), fun a z => ⟨(R.bus a z).1, (R.bus a z).2.1, fun y => (R.bus a z).2.2 ((own_wipe h a).mp y)⟩, fun i j f d g e a e1 e2 e3 e4 => ?_, fun i s e => ?_⟩
  · rw [wipeE_get] at e1 e2
    rw [wipe_get] at e3 e4
    by_cases hi : i ∈ is
    · rw [if_pos hi] at e1
      split at e1 <;> cases e1
    · by_cases hj : j ∈ is
      · rw [if_pos hj] at e2
        split at e2 <;> cases e2
      · rw [if_neg hi] at e1 e3
        rw [if_neg hj] at e2 e4
        exact R.inj i j f d g e a e1 e2 e3 e4
  · rw [wipeE_get] at e
    by_cases hi : i ∈ is
    · rw [if_pos hi] at e
      split at e <;> cases e
      trivial
    · rw [if_neg hi] at e
      rw [wipe_get, if_neg hi]
      have q := R.sl i s e
      cases s with
      | x xc xf xa => exact q
      | e => trivial
      | v f d =>
        obtain ⟨v, e', hf, r⟩ := q
        exact ⟨v, e', hf, r.imp fun a _ q => q.anti fun _ z => (own_wipe h a).mp z⟩
      | o f d =>
        obtain ⟨a, e', hf, r⟩ := q
        exact ⟨a, e', hf, r.imp fun b _ q => q.anti fun _ z => (own_wipe h b).mp z⟩
/-- with a list at D that is being filled -/
def Cc.busy (C : Cc) (D : Addr) : Cc := { C with B := fun a => C.B a ∨ a = D }
theorem Pf.busy {D : Addr} {f : Fl} {a : Addr} (h : Pf C O f a) (hd : a ≠ D) : Pf (C.busy D) O f a := by
  have hb : ¬ (C.busy D).B a := fun z => z.elim h.notB hd
  cases f with
  | bor => exact hb
  | arg => exact ⟨hb, h.2⟩
  | fro => exact ⟨hb, h.2⟩
theorem Pf.unbusy {D : Addr} {f : Fl} {a : Addr} (h : Pf (C.busy D) O f a) : Pf C O f a ∧ a ≠ D := by
  have hb := h.notB
  have h1 : ¬ C.B a := fun z => hb (.inl z)
  have h2 : a ≠ D := fun z => hb (.inr z)
  cases f with
  | bor => exact ⟨h1, h2⟩
  | arg => exact ⟨⟨h1, h.2⟩, h2⟩
  | fro => exact ⟨⟨h1, h.2⟩, h2⟩
theorem Rep.busy {P : Addr → Prop} {Da : Addr} {d : Dv.D} {v : V} (r : Rep C P H d v) : Rep (C.busy Da) P H d v := Rep.ctx (C := C) (C' := C.busy Da) rfl (fun _ _ z => z) r
theorem Rep.unbusy {P : Addr → Prop} {Da : Addr} {d : Dv.D} {v : V} (r : Rep (C.busy Da) P H d v) : Rep C P H d v := Rep.ctx (C := C.busy Da) (C' := C) rfl (fun _ _ z => z) r
theorem OwnR.busyI {P P' : Addr → Prop} {D a : Addr} {d : Dv.D} (k : ∀ b, (∃ o, H b = some o) → P b → P' b) (r : OwnR C P H a d) : OwnR (C.busy D) P' H a d := by
  cases d with
  | lst ds => obtain ⟨vs, e, t1, t2⟩ := r; exact ⟨vs, e, t1, fun i d v e1 e2 => Rep.busy ((t2 i d v e1 e2).imp fun b z q => ⟨k b z q.1, q.2⟩)⟩
  | dic kvs => obtain ⟨vs, e, t1, t2⟩ := r; exact ⟨vs, e, t1, fun i d v e1 e2 => Rep.busy ((t2 i d v e1 e2).imp fun b z q => ⟨k b z q.1, q.2⟩)⟩
  | _ => exact r
theorem RelO.busy {G : Hp} {env : En} {σ : L2.St} {D : Addr} {acc : List V} {H3 : Hp} (R : RelO C G env σ H) (hD : H D = none) (s : Same H H3) (h3 : H3 D = some (.lst acc)) : RelO (C.busy D) G env σ H3 := by
  have nD := R.new hD
  refine ⟨R.len, R.h0, R.g.trans s, R.scr, R.own, fun a z => ?_, R.inj, fun i sl e => ?_⟩
  · rcases z with z | rfl
    · obtain ⟨⟨o, e⟩, h⟩ := R.bus a z
      exact ⟨⟨o, s _ _ e⟩, h⟩
    · exact ⟨⟨_, h3⟩, nD.2.2.1, nD.1⟩
  · have q := R.sl i sl e
    have ne : ∀ {b : Addr}, (∃ o, H b = some o) → b ≠ D := fun ⟨o, e⟩ => ne_of_none e hD
    cases sl with
    | x xc xf xa => obtain ⟨xa', xd, e', z, r'⟩ := q; exact ⟨xa', xd, e', z, r'.keep (P := fun _ => False) (Keep.same s)⟩
    | e => trivial
    | v f d =>
      obtain ⟨v, e', hf, r⟩ := q
      exact ⟨v, e', hf, Rep.same s (Rep.busy (r.imp fun a z q => q.busy (ne z)))⟩
    | o f d =>
      obtain ⟨a, e', hf, r⟩ := q
      exact ⟨a, e', hf, (OwnR.busyI (fun b z q => q.busy (ne z)) r).keep (Keep.same s) fun o => s a o⟩
abbrev W0 : WX := fun _ _ _ _ => False
theorem de_comp {wi : TI} {t : Tg} {tt : TT} {te : TE} {wI : En → (Fl → List Dv.D → Prop) → (Exn → Prop) → Prop} {wc : En → (Bool → Prop) → Prop} {we : WpE} (hi : DIc C W wi wI)
    (hc : ∀ C' : Cc, C'.K = C.K → C'.ca = C.ca → C'.Z = C.Z → DT C' W0 tt fun e Q _ => wc e Q) (he : ∀ C' : Cc, C'.K = C.K → C'.ca = C.ca → C'.Z = C.Z → DE C' W0 te we) :
    DE C W (tLc wi (rdTg C.K t) tt te (tgS t)) (fun env Q X => wI env (fun f ds => (ds.length ≤ line ∧ notOwn env (tgS t)) ∧
      compL t (fun e' Q' => wc e' Q') (fun e' Q' => we e' Q' fun _ => False) f (wipeE env (tgS t)) ds fun g ys => Q (.n g (.lst ys))) X) := by
  intro G env σ H Q Qx Qv RO hx hq h
  refine hi G env σ H _ Qx _ RO hx ?_ h
  intro J H1 f ds s1 ok h1 Da hD
  obtain ⟨⟨hlen, hno⟩, h1⟩ := h1
  have R1 := RO.same s1
  have nD := R1.new hD
  have ok := ok (fun b => ¬ C.B b ∧ b ≠ Da) (fun b => Pf C (Own env σ) f b ∧ b ≠ Da) (fun a ⟨o, e⟩ q => ⟨q, ne_of_none e hD⟩) (fun a ⟨o, e⟩ q => ⟨q, ne_of_none e hD⟩) fun a q => ⟨q.1.notB, q.2⟩
  refine ⟨fun i m H2 => m = ds.length - i ∧ i ≤ ds.length ∧ Same H1 H2 ∧ ∃ acc ys ga, H2 Da = some (.lst acc) ∧ RepL C (fun b => Pf C (Own env σ) ga b ∧ b ≠ Da) H2 ys acc ∧ acc.length ≤ i ∧
    compL t (fun e' Q' => wc e' Q') (fun e' Q' => we e' Q' fun _ => False) f (wipeE env (tgS t)) (ds.drop i) (fun g zs => Q (.n (ga.inf g) (.lst (ys ++ zs)))),
    ⟨ds.length, rfl, Nat.zero_le _, same_upd hD, [], [], .fro, upd_same, RepL.nil, Nat.le_refl _, by simpa using h1⟩, ?_⟩
  rintro i m H2 ⟨rfl, hi2, s12, acc, ys, ga, h2D, tac, hal, hw⟩
  obtain ⟨okg, oks, oky⟩ := ok H2 (Keep.same s12)
  by_cases hlt : i < ds.length
  · refine .inr ⟨okg i hlt, fun H' => Same H1 H' ∧ ∃ acc ys ga, H' Da = some (.lst acc) ∧ RepL C (fun b => Pf C (Own env σ) ga b ∧ b ≠ Da) H' ys acc ∧ acc.length ≤ i + 1 ∧
      compL t (fun e' Q' => wc e' Q') (fun e' Q' => we e' Q' fun _ => False) f (wipeE env (tgS t)) (ds.drop (i + 1)) (fun g zs => Q (.n (ga.inf g) (.lst (ys ++ zs)))),
      fun H' z => ⟨ds.length - (i + 1), by omega, rfl, hlt, z⟩, fun x H3 y => ?_⟩
    obtain ⟨s23, d, ed, rd⟩ := oky i x H3 y hlt
    have s13 := s12.trans s23
    have h3D := s23 _ _ h2D
    rw [List.drop_eq_getElem_cons hlt] at hw
    have ed' : ds[i] = d := by rw [List.getElem?_eq_getElem hlt] at ed; exact Option.some.inj ed
    rw [ed'] at hw
    have RB : RelO (C.busy Da) G (wipeE env (tgS t)) (L2.wipe σ (tgS t)) H3 := (R1.wipe hno).busy hD s13 h3D
    have O1 : ∀ a, Own (wipeE env (tgS t)) (L2.wipe σ (tgS t)) a ↔ Own env σ a := own_wipe hno
    have rdB : RepR (C.busy Da) (Own (wipeE env (tgS t)) (L2.wipe σ (tgS t))) H3 H3 (.v f d) x :=
      Rep.busy (rd.imp fun a _ q => (q.1.anti fun _ z => (O1 a).mp z).busy q.2)
    refine tg_ok (C := C.busy Da) RB (Same.refl _) rdB ?_ hw
    intro env2 σ2 R2 hw2 off offE
    have own2 : ∀ a, Own env σ a → Own env2 σ2 a := by
      rintro a ⟨j, g, d', e1, e2⟩
      have hj : ¬ j ∈ tgS t := fun hj => notOwn_get hno j hj g d' e1
      refine ⟨j, g, d', ?_, ?_⟩
      · rw [offE j hj, wipeE_get, if_neg hj]; exact e1
      · rw [off.2 j hj, wipe_get, if_neg hj]; exact e2
    refine ⟨?_, ?_⟩
    · refine wipe_eq (by rw [off.1, wipe_length]) fun k hk => ?_
      rw [off.2 k hk, wipe_get, if_neg hk]
    refine hc (C.busy Da) rfl rfl rfl G env2 σ2 H3 _ (fun _ => False) _ R2 (fun _ _ _ _ _ _ z => z.elim) ?_ hw2
    intro b H4 s34 hb
    have s24 := s23.trans s34
    cases b with
    | false =>
      rw [if_neg Bool.false_ne_true]
      rw [if_neg Bool.false_ne_true] at hb
      exact ⟨s12.trans s24, acc, ys, ga, s24 _ _ h2D, tac.same s24, by omega, hb⟩
    | true =>
      rw [if_pos rfl]
      rw [if_pos rfl] at hb
      refine he (C.busy Da) rfl rfl rfl G env2 σ2 H4 _ (fun _ => False) _ (R2.same s34) (fun _ _ _ _ _ _ z => z.elim) ?_ hb
      intro yv H5 r s45 pr hr
      have s25 := s24.trans s45
      refine ⟨acc, s25 _ _ h2D, Nat.lt_of_lt_of_le (Nat.lt_of_le_of_lt hal hlt) (by rw [← line_eq]; exact hlen), ?_, acc ++ [yv], ys ++ [r.d], ga.inf r.fl, upd_same, ?_, by simp; omega, by simpa [List.append_assoc, Fl_inf_assoc] using hr⟩
      · intro b o e
        rw [upd_ne (ne_of_none e hD)]
        exact s25 _ _ (s12 _ _ e)
      · have kd : Keep (fun b => Pf C (Own env σ) (ga.inf r.fl) b ∧ b ≠ Da) H5 (upd H5 Da (.lst (acc ++ [yv]))) := Keep.upd (s25 _ _ h2D) (.inl ⟨_, rfl⟩) fun z => z.2 rfl
        refine RepL.keep kd (RepL.app ((tac.same s25).imp fun a _ q => ⟨Pf.inf_l q.1, q.2⟩) (.cons ?_ .nil))
        exact (Rep.unbusy pr.el).imp fun a _ q => ⟨Pf.inf_r (q.unbusy.1.anti fun _ z => own2 a z), q.unbusy.2⟩
  · have e : i = ds.length := by omega
    subst e
    refine .inl ⟨oks _ (Nat.le_refl _), ?_⟩
    rw [List.drop_length] at hw
    have hw : Q (.n (ga.inf .fro) (.lst (ys ++ []))) := hw
    rw [List.append_nil, inf_fro'] at hw
    exact hq _ H2 _ (s1.trans s12) (show RepR C _ H H2 (.n ga (.lst ys)) (.ref Da) from ⟨Da, rfl, ⟨s1.free hD, nD.2.2.2, nD.1⟩, nD.2.1, acc, h2D, tac⟩) hw
end
end Dv

namespace Dv
open PySem PySem.Spec PyProof.Rows L2
section
variable {C : Cc} {W : WX} {O : Addr → Prop} {H Hb : Hp}
theorem Cmp.less {G G' : Hp} {k : Ko} {D : Ends} (c : Cmp C W G k D) (s : Same G G') (h0 : Same C.H0 G) (hs : ∀ a ns, C.S a ns → SqL C.K G a (ns.map V.int)) : Cmp C W G' k D :=
  ⟨fun e σ H R => c.nx e σ H (R.less s h0 hs), fun e σ H R => c.bk e σ H (R.less s h0 hs), fun e σ H R => c.ct e σ H (R.less s h0 hs), c.rt, fun e σ H x cl d R => c.ex e σ H x cl d (R.less s h0 hs)⟩
/-- own content changes -/
theorem RelO.updO {G : Hp} {env : En} {σ : L2.St} {i : Nat} {f g : Fl} {d d' : D} {a : Addr} {o : HO} (R : RelO C G env σ H) (e : env[i]? = some (.o f d)) (es : σ[i]? = some (some (.ref a))) (hg : g ≠ .bor) (r : OwnR C (Pf C (Own env σ) g) (upd H a o) a d') :
    RelO C G (env.set i (.o g d')) σ (upd H a o) := by
  have ha : Own env σ a := ⟨i, f, d, e, es⟩
  obtain ⟨a', es', hf, r0⟩ := R.sl i _ e
  have ea : a' = a := by rw [es] at es'; cases es'; rfl
  subst ea
  obtain ⟨o0, h0, hk⟩ := r0.there
  have hlt : i < env.length := (List.getElem?_eq_some_iff.mp e).1
  have own : ∀ b, Own (env.set i (.o g d')) σ b ↔ Own env σ b := fun b => by
    constructor
    · rintro ⟨j, f', z, e1, e2⟩
      rw [List.getElem?_set] at e1
      by_cases hj : i = j
      · subst hj
        exact ⟨i, f, d, e, e2⟩
      · rw [if_neg hj] at e1
        exact ⟨j, f', z, e1, e2⟩
    · rintro ⟨j, f', z, e1, e2⟩
      by_cases hj : i = j
      · subst hj
        exact ⟨i, g, d', by rw [List.getElem?_set_self hlt], e2⟩
      · exact ⟨j, f', z, by rw [List.getElem?_set_ne hj]; exact e1, e2⟩
  have kp : ∀ {f' : Fl}, f' ≠ .bor → Keep (Pf C (Own env σ) f') H (upd H a' o) := fun hf' => Keep.upd h0 hk fun z => z.notO hf' ha
  have toO : ∀ {f' : Fl} {b : Addr}, Pf C (Own env σ) f' b → Pf C (Own (env.set i (.o g d')) σ) f' b := fun q => q.anti fun _ z => (own _).mp z
  have Ga := R.own a' ha
  refine ⟨by simp [R.len], R.h0, fun b z q => ?_, R.scr, fun b z => R.own b ((own b).mp z), fun b z => ?_, fun j k f1 d1 f2 d2 b e1 e2 e3 e4 => ?_, fun j s ej => ?_⟩
  · rw [upd_ne (ne_of_none q Ga)]
    exact R.g b z q
  · obtain ⟨⟨z1, z2⟩, z3, z4⟩ := R.bus b z
    refine ⟨⟨z1, ?_⟩, z3, fun y => z4 ((own b).mp y)⟩
    have : b ≠ a' := fun q => z4 (q ▸ ha)
    rw [upd_ne this]; exact z2
  · obtain ⟨f1', d1', e1'⟩ : ∃ f1' d1', env[j]? = some (.o f1' d1') := by
      rw [List.getElem?_set] at e1
      by_cases hj : i = j
      · subst hj; exact ⟨f, d, e⟩
      · rw [if_neg hj] at e1; exact ⟨_, _, e1⟩
    obtain ⟨f2', d2', e2'⟩ : ∃ f1' d1', env[k]? = some (.o f1' d1') := by
      rw [List.getElem?_set] at e2
      by_cases hj : i = k
      · subst hj; exact ⟨f, d, e⟩
      · rw [if_neg hj] at e2; exact ⟨_, _, e2⟩
    exact R.inj j k _ _ _ _ b e1' e2' e3 e4
  · rw [List.getElem?_set] at ej
    by_cases hj : i = j
    · subst hj
      rw [if_pos rfl, if_pos hlt] at ej
      cases ej
      exact ⟨a', es, hg, r.imp fun b _ q => toO q⟩
    · rw [if_neg hj] at ej
      have q := R.sl j s ej
      cases s with
      | x xc xf xa => obtain ⟨xa', xd, e', y, r'⟩ := q; exact ⟨xa', xd, e', y, r'.keep (kp (f' := .fro) (by decide))⟩
      | e => trivial
      | v f' z =>
        obtain ⟨v, e', hf', r'⟩ := q
        exact ⟨v, e', hf', (r'.keep (kp hf')).imp fun b _ q => toO q⟩
      | o f' z =>
        obtain ⟨b, e', hf', r'⟩ := q
        have hb : b ≠ a' := fun q => hj (R.inj i j _ _ _ _ a' e ej es (by rw [e', q]))
        exact ⟨b, e', hf', (r'.keep (kp hf') fun o' q => by rw [upd_ne hb]; exact q).imp fun b _ q => toO q⟩
/-- own no more: it stays as it is from now on -/
theorem RelO.frz {G : Hp} {env : En} {σ : L2.St} (R : RelO C G env σ H) (i : Nat) : RelO C G (frzE env i) σ H := by
  unfold frzE
  split
  · rename_i f d e
    obtain ⟨a, es, hf, r⟩ := R.sl i _ e
    have ha : Own env σ a := ⟨i, f, d, e, es⟩
    have hlt : i < env.length := (List.getElem?_eq_some_iff.mp e).1
    have sub : ∀ b, Own (env.set i (.v f d)) σ b → Own env σ b ∧ b ≠ a := by
      rintro b ⟨j, f', z, e1, e2⟩
      rw [List.getElem?_set] at e1
      by_cases hj : i = j
      · rw [if_pos hj] at e1
        split at e1 <;> cases e1
      · rw [if_neg hj] at e1
        exact ⟨⟨j, f', z, e1, e2⟩, fun q => hj (R.inj i j _ _ _ _ a e e1 es (by rw [e2, q]))⟩
    have toO : ∀ {f' : Fl} {b : Addr}, Pf C (Own env σ) f' b → Pf C (Own (env.set i (.v f d)) σ) f' b := fun q => q.anti fun _ z => (sub _ z).1
    refine ⟨by simp [R.len], R.h0, R.g, R.scr, fun b z => R.own b (sub b z).1, fun b z => ⟨(R.bus b z).1, (R.bus b z).2.1, fun y => (R.bus b z).2.2 (sub b y).1⟩, fun j k f1 d1 f2 d2 b e1 e2 e3 e4 => ?_, fun j s ej => ?_⟩
    · rw [List.getElem?_set] at e1 e2
      by_cases hj : i = j
      · rw [if_pos hj] at e1
        split at e1 <;> cases e1
      · by_cases hk : i = k
        · rw [if_pos hk] at e2
          split at e2 <;> cases e2
        · rw [if_neg hj] at e1
          rw [if_neg hk] at e2
          exact R.inj j k _ _ _ _ b e1 e2 e3 e4
    · rw [List.getElem?_set] at ej
      by_cases hj : i = j
      · subst hj
        rw [if_pos rfl, if_pos hlt] at ej
        cases ej
        refine ⟨_, es, hf, r.rep ?_ fun b q => toO q⟩
        have nB : ¬ C.B a := fun z => (R.bus a z).2.2 ha
        have nO : ¬ Own (env.set i (.v f d)) σ a := fun z => (sub a z).2 rfl
        cases f with
        | bor => exact absurd rfl hf
        | arg => exact ⟨nB, nO, .inr (R.ownH0 ha)⟩
        | fro => exact ⟨nB, nO, R.ownH0 ha⟩
      · rw [if_neg hj] at ej
        have q := R.sl j s ej
        cases s with
        | x xc xf xa => exact q
        | e => trivial
        | v f' z =>
          obtain ⟨v, e', hf', r'⟩ := q
          exact ⟨v, e', hf', r'.imp fun b _ q => toO q⟩
        | o f' z =>
          obtain ⟨b, e', hf', r'⟩ := q
          exact ⟨b, e', hf', r'.imp fun b _ q => toO q⟩
  · exact R

/-! ### statements -/
theorem ds_asg {te : TE} {we : WpE} {t : Tg} (he : DE C W te we) : DS C W (tAsg te (rdTg C.K t)) (fun k env => we env (fun r => tgW t r env k.nx) fun x => k.ex x env) := by
  intro G env σ H k D R c h
  refine he G env σ H _ _ _ R (c.xok R) ?_ h
  intro v H' r s p q
  exact tg_ok R s p (fun env' σ' R' q' _ _ => c.nx env' σ' H' R' q') q
theorem ds_par {i j : Nat} {ta tb : TE} {wa wb : WpE} (ha : DE C W ta wa) (hb : DE C W tb wb) : DS C W (tPar i j (tCons ta (tCons tb tNil))) (fun k env => wa env (fun x => wb env (fun y => put1 i x.fl x.d env fun e => put1 j y.fl y.d e k.nx) fun x => k.ex x env) fun x => k.ex x env) := by
  intro G env σ H k D R c h
  refine ha G env σ H _ _ _ R (c.xok R) ?_ h
  intro v1 H1 r1 s1 p1 h1
  refine hb G env σ H1 _ _ _ (R.same s1) (c.xok (R.same s1)) ?_ h1
  intro v2 H2 r2 s2 p2 h2
  obtain ⟨e1, h3, R1, o1, _⟩ := put1_ok (R.same (s1.trans s2)) (p1.same s2).el h2
  obtain ⟨e2, h4, R2, o2, _⟩ := put1_ok R1 (p2.el.imp fun a _ q => q.anti fun _ z => o1 a z) h3
  exact ⟨v1, v2, rfl, c.nx _ _ _ R2 h4⟩
theorem ds_par3 {i j l : Nat} {ta tb tc : TE} {wa wb wc : WpE} (ha : DE C W ta wa) (hb : DE C W tb wb) (hc : DE C W tc wc) : DS C W (tPar3 i j l (tCons ta (tCons tb (tCons tc tNil)))) (fun k env => wa env (fun x => wb env (fun y => wc env (fun z => put1 i x.fl x.d env fun e => put1 j y.fl y.d e fun e => put1 l z.fl z.d e k.nx) fun x => k.ex x env) fun x => k.ex x env) fun x => k.ex x env) := by
  intro G env σ H k D R c h
  refine ha G env σ H _ _ _ R (c.xok R) ?_ h
  intro v1 H1 r1 s1 p1 h1
  refine hb G env σ H1 _ _ _ (R.same s1) (c.xok (R.same s1)) ?_ h1
  intro v2 H2 r2 s2 p2 h2
  refine hc G env σ H2 _ _ _ (R.same (s1.trans s2)) (c.xok (R.same (s1.trans s2))) ?_ h2
  intro v3 H3 r3 s3 p3 h3
  obtain ⟨e1, h4, R2, o1, _⟩ := put1_ok (R.same ((s1.trans s2).trans s3)) ((p1.same s2).same s3).el h3
  obtain ⟨e2, h5, R3, o2, _⟩ := put1_ok R2 ((p2.same s3).el.imp fun a _ q => q.anti fun _ z => o1 a z) h4
  obtain ⟨e3, h6, R4, o3, _⟩ := put1_ok R3 (p3.el.imp fun a _ q => q.anti fun _ z => o1 a (o2 a z)) h5
  exact ⟨v1, v2, v3, rfl, c.nx _ _ _ R4 h6⟩
theorem varW_val {G : Hp} {env : En} {σ : L2.St} {i : Nat} {Q : Dv.R → Prop} (R : RelO C G env σ H) (h : varW env i Q) : ∃ v r, σ[i]? = some (some v) ∧ RepR C (Own env σ) H H r v ∧ Q r := by
  unfold varW at h
  split at h
  · rename_i f d e
    obtain ⟨v, ev, hf, r⟩ := R.sl i _ e
    exact ⟨v, _, ev, (show RepR C _ H H (.v f d) v from r), h⟩
  · rename_i f d e
    obtain ⟨a, ev, hf, r⟩ := R.sl i _ e
    exact ⟨_, _, ev, (show RepR C (Own env σ) H H (.b f d) (.ref a) from ⟨a, rfl, fun z => (R.bus a z).2.2 ⟨i, f, d, e, ev⟩, r⟩), h⟩
  · exact h.elim
theorem ds_aug {i : Nat} {te : TE} {we : WpE} (he : DE C W te we) : DS C W (tAug i te (ipI fun i j => i + j)) (fun k env => varW env i fun x => we env (fun y => match x.d, y.d with
      | .int a, .int b => k.nx (env.set i (.v .fro (.int (a + b))))
      | _, _ => False) fun x => k.ex x env) := by
  intro G env σ H k D R c h
  obtain ⟨v, x, ev, px, h⟩ := varW_val R h
  refine ⟨v, ev, ?_⟩
  refine he G env σ H _ _ _ R (c.xok R) ?_ h
  intro v2 H2 r2 s2 p2 h2
  split at h2
  · rename_i a b e1 e2
    exact ⟨a, b, px.int e1, p2.int e2, c.nx _ _ _ ((R.same s2).setV (by decide) (.int _)) h2⟩
  · exact h2.elim
theorem ds_expr {te : TE} {we : WpE} (he : DE C W te we) : DS C W (tDrop te) (fun k env => we env (fun _ => k.nx env) fun x => k.ex x env) := by
  intro G env σ H k D R c h
  refine he G env σ H _ _ _ R (c.xok R) ?_ h
  intro v H' r s p q
  exact c.nx _ _ _ (R.same s) q
theorem ret_ok {G : Hp} {env : En} {σ : L2.St} {H1 : Hp} {r : Dv.R} {v : V} {k : Ko} {D : Ends} (R : RelO C G env σ H) (s : Same H H1) (p : RepR C (Own env σ) H H1 r v) (c : Cmp C W G k D) (h : retW r k.rt) : D.rt v H1 := by
  have an : ∀ {f : Fl} {a : Addr}, Pf C (Own env σ) f a → Pf C (fun _ => False) f a := fun q => q.anti fun _ z => z.elim
  cases r with
  | v f d =>
    have p : Rep C (Pf C (Own env σ) f) H1 d v := p
    simp only [retW_v] at h
    by_cases hp : d.pure = true
    · rw [if_pos hp] at h
      exact c.rt v H1 (.v .fro d) (R.h0H.trans s) (show Rep C _ H1 d v from p.pure hp) h
    · rw [if_neg hp] at h
      exact c.rt v H1 (.v f d) (R.h0H.trans s) (show Rep C (Pf C (fun _ => False) f) H1 d v from p.imp fun a _ q => an q) h.2
  | n f d =>
    obtain ⟨a, rfl, h1, h2, h3⟩ := p
    simp only [retW_n] at h
    exact c.rt _ H1 _ (R.h0H.trans s) (show RepR C (fun _ => False) C.H0 H1 (.n f d) (.ref a) from ⟨a, rfl, ⟨h2, h1.2.1, fun z => z⟩, h2, h3.imp fun a _ q => an q⟩) h.2
  | b f d => exact (show False from h).elim
theorem ds_ret {te : TE} {we : WpE} (he : DE C W te we) : DS C W (tRet te) (fun k env => we env (fun r => retW r k.rt) fun x => k.ex x env) := by
  intro G env σ H k D R c h
  refine he G env σ H _ _ _ R (c.xok R) ?_ h
  intro v H' r s p q
  exact ret_ok R s p c q
theorem ds_retv {i : Nat} : DS C W (tRet (tVar i)) (fun k env => retvW env i k.rt) := by
  intro G env σ H k D R c h
  have h : retvW env i k.rt := h
  unfold retvW at h
  split at h
  · rename_i f d e
    obtain ⟨v, ev, hf, r⟩ := R.sl i _ e
    exact ⟨v, ev, ret_ok R (Same.refl H) (show RepR C _ H H (.v f d) v from r) c h⟩
  · rename_i f d e
    obtain ⟨a, ev, hf, r⟩ := R.sl i _ e
    have ha : Own env σ a := ⟨i, f, d, e, ev⟩
    refine ⟨_, ev, c.rt _ H _ R.h0H (show RepR C (fun _ => False) C.H0 H (.n f d) (.ref a) from ⟨a, rfl, ⟨R.ownH0 ha, fun z => (R.bus a z).2.2 ha, fun z => z⟩, R.ownH0 ha, r.imp fun b _ q => q.anti fun _ z => z.elim⟩) h⟩
  · exact h.elim
theorem ds_iff {tc : TT} {wc : WpT} {ta tb : TS} {wa wb : Ko → En → Prop} (hc : DT C W tc wc) (ha : DS C W ta wa) (hb : DS C W tb wb) : DS C W (tIfS tc ta tb) (fun k env => wc env (fun d => if d = true then wa k env else wb k env) fun x => k.ex x env) := by
  intro G env σ H k D R c h
  refine hc G env σ H _ _ _ R (c.xok R) ?_ h
  intro b H1 s1 q
  cases b with
  | true =>
    rw [if_pos rfl]
    rw [if_pos rfl] at q
    exact ha G env σ H1 k D (R.same s1) c q
  | false =>
    rw [if_neg Bool.false_ne_true]
    rw [if_neg Bool.false_ne_true] at q
    exact hb G env σ H1 k D (R.same s1) c q
theorem ds_whl {tc : TT} {wc : WpT} {tb : TS} {wb : Ko → En → Prop} (hc : DT C W tc wc) (hb : DS C W tb wb) : DS C W (tWhile tc tb) (fun k env => whlW wc wb k env) := by
  intro G env σ H k D R c h
  obtain ⟨I, ⟨n0, i0⟩, hI⟩ := h
  refine ⟨fun m σ' H' => ∃ e, RelO C G e σ' H' ∧ I m e, ⟨n0, env, R, i0⟩, ?_⟩
  rintro m σ1 H1 ⟨e1, R1, i1⟩
  have hR : RelO C G e1 σ1 H1 := R1
  refine hc G e1 σ1 H1 _ _ _ R1 (c.xok R1) ?_ (hI m e1 i1)
  intro b H2 s2 q
  cases b with
  | true =>
    rw [if_pos rfl]
    rw [if_pos rfl] at q
    refine ⟨fun σ' H' => ∃ m' e, m' < m ∧ RelO C G e σ' H' ∧ I m' e, fun σ' H' ⟨m', e, hm, R', i'⟩ => ⟨m', hm, e, R', i'⟩, ?_⟩
    refine hb G e1 σ1 H2 { k with nx := fun e' => ∃ m', m' < m ∧ I m' e', ct := fun e' => ∃ m', m' < m ∧ I m' e', bk := k.nx } _ (R1.same s2) ⟨?_, ?_, ?_, c.rt, c.ex⟩ q
    · rintro e σ' H' R' ⟨m', hm, i'⟩
      exact ⟨m', e, hm, R', i'⟩
    · exact fun e σ' H' R' z => c.nx e σ' H' R' z
    · rintro e σ' H' R' ⟨m', hm, i'⟩
      exact ⟨m', e, hm, R', i'⟩
  | false =>
    rw [if_neg Bool.false_ne_true]
    rw [if_neg Bool.false_ne_true] at q
    exact c.nx e1 σ1 H2 (R1.same s2) q
theorem ds_for {wi : TI} {wI : En → (Fl → List Dv.D → Prop) → (Exn → Prop) → Prop} {t : Tg} {tb : TS} {wb : Ko → En → Prop} (hi : DI C W wi wI) (hb : DS C W tb wb) : DS C W (tFor wi (rdTg C.K t) tb) (fun k env => wI env (fun f ds => f ≠ .bor ∧ forL t wb k f ds env) fun x => k.ex x env) := by
  intro G env σ H k D R c h
  refine hi G env σ H _ _ _ R (c.xok R) ?_ h
  intro J H1 f ds s1 ok h1
  obtain ⟨hf, h1⟩ := h1
  have R1 := R.same s1
  obtain ⟨RS, gs⟩ := R1.snap
  have c2 := c.less gs R.h0 R.scr
  have ok := ok (fun b => Pf C (Own env σ) f b ∧ ∃ o, H1 b = some o) fun a e q => ⟨q, e⟩
  have hotL : ∀ b, Hot C env σ b → ∀ o, H1 b = some o → (∃ xs, o = .lst xs) ∨ ∃ kvs, o = .dK kvs := by
    rintro b (⟨i, f', d', e1, e2⟩ | z) o e
    · obtain ⟨a, e3, _, r⟩ := R1.sl i _ e1
      rw [e2] at e3
      cases e3
      obtain ⟨o', e4, hk⟩ := r.there
      rw [e4] at e
      cases e
      exact hk
    · obtain ⟨⟨xs, e4⟩, _⟩ := R1.bus b z
      rw [e4] at e
      cases e
      exact .inl ⟨_, rfl⟩
  have kp : ∀ {H2 : Hp}, Same (Dv.snap (Hot C env σ) H1) H2 → Keep (fun b => Pf C (Own env σ) f b ∧ ∃ o, H1 b = some o) H1 H2 := fun {H2} s =>
    ⟨fun b o p e => s b o (snap_some.mpr ⟨fun z => z.elim (p.1.notO hf) p.1.notB, e⟩),
      fun b xs e => s b _ (snap_some.mpr ⟨fun z => (by rcases hotL b z _ e with ⟨_, q⟩ | ⟨_, q⟩ <;> cases q), e⟩),
      fun b o u e => s b _ (snap_some.mpr ⟨fun z => (by rcases hotL b z _ e with ⟨_, q⟩ | ⟨_, q⟩ <;> cases q), e⟩),
      fun b fs e => s b _ (snap_some.mpr ⟨fun z => (by rcases hotL b z _ e with ⟨_, q⟩ | ⟨_, q⟩ <;> cases q), e⟩)⟩
  refine ⟨fun i m σ2 H2 => m = ds.length - i ∧ i ≤ ds.length ∧ ∃ e2, RelO C (Dv.snap (Hot C env σ) H1) e2 σ2 H2 ∧ forL t wb k f (ds.drop i) e2, ⟨ds.length, rfl, Nat.zero_le _, env, RS, by simpa using h1⟩, ?_⟩
  rintro i m σ2 H2 ⟨rfl, hi2, e2, R2, hw⟩
  obtain ⟨okg, oks, oky⟩ := ok H2 (kp R2.g)
  by_cases hlt : i < ds.length
  · refine .inr ⟨okg i hlt, fun σ' H' => ∃ e', RelO C (Dv.snap (Hot C env σ) H1) e' σ' H' ∧ forL t wb k f (ds.drop (i + 1)) e', fun σ' H' z => ⟨ds.length - (i + 1), by omega, rfl, hlt, z⟩, fun x H3 y => ?_⟩
    obtain ⟨s23, d, ed, rd⟩ := oky i x H3 y hlt
    have R3 := R2.same s23
    rw [List.drop_eq_getElem_cons hlt] at hw
    have ed' : ds[i] = d := by rw [List.getElem?_eq_getElem hlt] at ed; exact Option.some.inj ed
    rw [ed'] at hw
    have rd2 : RepR C (Own e2 σ2) H3 H3 (.v f d) x := by
      refine (show Rep C (Pf C (Own e2 σ2) f) H3 d x from rd.imp fun a _ q => ?_)
      obtain ⟨q, o, e⟩ := q
      have nh : ¬ Hot C env σ a := fun z => z.elim (q.notO hf) q.notB
      have n2 : ¬ Own e2 σ2 a := fun z => by
        have z2 := R2.own a z
        rw [snap_some.mpr ⟨nh, e⟩] at z2
        cases z2
      cases f with
      | bor => exact absurd rfl hf
      | arg => exact ⟨q.1, n2, q.2.2⟩
      | fro => exact ⟨q.1, n2, q.2.2⟩
    refine tg_ok R3 (Same.refl _) rd2 ?_ hw
    intro e4 σ4 R4 hw4 _ _
    refine hb _ e4 σ4 H3 { k with nx := forL t wb k f (ds.drop (i + 1)), ct := forL t wb k f (ds.drop (i + 1)), bk := k.nx } _ R4 ⟨?_, ?_, ?_, c2.rt, c2.ex⟩ hw4
    · exact fun e σ' H' R' z => ⟨e, R', z⟩
    · exact fun e σ' H' R' z => c2.nx e σ' H' R' z
    · exact fun e σ' H' R' z => ⟨e, R', z⟩
  · have e : i = ds.length := by omega
    subst e
    refine .inl ⟨oks _ (Nat.le_refl _), ?_⟩
    rw [List.drop_length] at hw
    exact c2.nx e2 σ2 H2 R2 hw
theorem ds_nil : DS C W tNext (fun k env => k.nx env) := fun G env σ H k D R c h => c.nx env σ H R h
theorem ds_brk : DS C W tBreak (fun k env => k.bk env) := fun G env σ H k D R c h => c.bk env σ H R h
theorem ds_cont : DS C W tCont (fun k env => k.ct env) := fun G env σ H k D R c h => c.ct env σ H R h
theorem ds_cons {ta tb : TS} {wa wb : Ko → En → Prop} (ha : DS C W ta wa) (hb : DS C W tb wb) : DS C W (tSeq ta tb) (fun k env => wa { k with nx := wb k } env) := by
  intro G env σ H k D R c h
  exact ha G env σ H { k with nx := wb k } _ R ⟨fun e σ' H' R' z => hb G e σ' H' k D R' c z, c.bk, c.ct, c.rt, c.ex⟩ h
theorem ds_frz {tb : TS} {wb : Ko → En → Prop} {i : Nat} (hb : DS C W tb wb) : DS C W tb (fun k env => wb k (frzE env i)) := fun G env σ H k D R c h => hb G _ σ H k D (R.frz i) c h
theorem ds_raise {c : Str} (hcl : c ∈ C.ca.l) : DS C W (fun _ σ H => W (.ref (C.ca c)) none σ H) (fun k env => k.ex ⟨c, Str.empty, []⟩ env) := fun G env σ H k D R cm h => cm.ex env σ H ⟨c, Str.empty, []⟩ _ _ R ⟨⟨rfl, hcl⟩, rfl⟩ h

/-! ### what changes a list or dict -/
theorem ownL_val {G : Hp} {env : En} {σ : L2.St} {i : Nat} {Q : Fl → List Dv.D → Prop} (R : RelO C G env σ H) (h : ownL env i Q) : ∃ a f ds vs, env[i]? = some (.o f (.lst ds)) ∧ σ[i]? = some (some (.ref a)) ∧ f ≠ .bor ∧ H a = some (.lst vs) ∧ RepL C (fun b => Pf C (Own env σ) f b ∧ b ≠ a) H ds vs ∧ Q f ds := by
  unfold ownL at h
  split at h
  · rename_i f ds e
    obtain ⟨a, ev, hf, vs, h1, t⟩ := R.sl i _ e
    exact ⟨a, f, ds, vs, e, ev, hf, h1, t, h⟩
  · exact h.elim
/-- an own list gets other items -/
theorem RelO.updL {G : Hp} {env : En} {σ : L2.St} {i : Nat} {f g : Fl} {d : D} {a : Addr} {es : List Dv.D} {us vs0 : List V} (R : RelO C G env σ H) (e : env[i]? = some (.o f d)) (ev : σ[i]? = some (some (.ref a))) (h0 : H a = some (.lst vs0)) (hg : g ≠ .bor)
    (t : RepL C (fun b => Pf C (Own env σ) g b ∧ b ≠ a) H es us) : RelO C G (env.set i (.o g (.lst es))) σ (upd H a (.lst us)) :=
  R.updO e ev hg ⟨us, upd_same, t.keep (Keep.upd h0 (.inl ⟨_, rfl⟩) fun z => z.2 rfl)⟩
theorem notO_ne {G : Hp} {env : En} {σ : L2.St} {f : Fl} {b a : Addr} (hf : f ≠ .bor) (q : Pf C (Own env σ) f b) (ha : Own env σ a) : b ≠ a := fun z => q.notO hf (z ▸ ha)
theorem Fl.inf_ne {f g : Fl} (hf : f ≠ .bor) (hg : g ≠ .bor) : f.inf g ≠ .bor := by cases f <;> cases g <;> simp_all [Fl.inf]
theorem ds_app {i : Nat} {te : TE} {we : WpE} (he : DE C W te we) : DS C W (tDrop (tBM C.K "list" rAppend (tVar i) (tCons te tNil))) (fun k env => ownL env i fun f ds => we env (fun r => elW r fun g d => ds.length < line ∧ k.nx (env.set i (.o (f.inf g) (.lst (ds ++ [d]))))) fun x => k.ex x env) := by
  intro G env σ H k D R c h
  obtain ⟨a, f, ds, us, e, ev, hf, h1, t, h⟩ := ownL_val R h
  have ha : Own env σ a := ⟨i, f, _, e, ev⟩
  refine ⟨_, ev, .inl ⟨rfl, us, .inl (.inl h1)⟩, ?_⟩
  refine he G env σ H _ _ _ R (c.xok R) ?_ h
  intro v H1 r s1 p q
  simp only [elW_] at q
  obtain ⟨hr, q⟩ := q
  have R1 := R.same s1
  refine ⟨_, us, v, rfl, rfl, s1 _ _ h1, by rw [← t.1, ← line_eq]; exact q.1, c.nx _ _ _ ?_ q.2⟩
  refine R1.updL e ev (s1 _ _ h1) (Fl.inf_ne hf hr) (((t.same s1).imp fun b _ z => ⟨Pf.inf_l z.1, z.2⟩).app (.cons ?_ .nil))
  exact p.el.imp fun b _ z => ⟨Pf.inf_r z, notO_ne (G := G) hr z ha⟩
theorem ds_ext {i : Nat} {te : TE} {we : WpE} (he : DE C W te we) : DS C W (tDrop (tBM C.K "list" rExtend (tVar i) (tCons te tNil))) (fun k env => ownL env i fun f ds => we env (fun r => (match r.d with
      | .lst es => r.fl ≠ .bor ∧ ds.length + es.length ≤ line ∧ k.nx (env.set i (.o (f.inf r.fl) (.lst (ds ++ es))))
      | _ => False)) fun x => k.ex x env) := by
  intro G env σ H k D R c h
  obtain ⟨a, f, ds, us, e, ev, hf, h1, t, h⟩ := ownL_val R h
  have ha : Own env σ a := ⟨i, f, _, e, ev⟩
  refine ⟨_, ev, .inl ⟨rfl, us, .inl (.inl h1)⟩, ?_⟩
  refine he G env σ H _ _ _ R (c.xok R) ?_ h
  intro v H1 r s1 p q
  have R1 := R.same s1
  split at q
  · rename_i es e2
    obtain ⟨b, ws, rfl, h2, t2⟩ := p.lst e2
    refine ⟨_, b, us, ws, rfl, rfl, s1 _ _ h1, h2, by rw [← t.1, ← t2.1, ← line_eq]; exact q.2.1, c.nx _ _ _ ?_ q.2.2⟩
    refine R1.updL e ev (s1 _ _ h1) (Fl.inf_ne hf q.1) (((t.same s1).imp fun b _ z => ⟨Pf.inf_l z.1, z.2⟩).app (t2.imp fun b _ z => ⟨Pf.inf_r z, notO_ne (G := G) q.1 z ha⟩))
  · exact q.elim
theorem ds_rev {i : Nat} : DS C W (tDrop (tBM0 C.K "list" rReverse (tVar i))) (fun k env => ownL env i fun f ds => k.nx (env.set i (.o f (.lst ds.reverse)))) := by
  intro G env σ H k D R c h
  obtain ⟨a, f, ds, us, e, ev, hf, h1, t, h⟩ := ownL_val R h
  exact ⟨_, ev, .inl ⟨rfl, us, .inl (.inl h1)⟩, a, us, rfl, rfl, h1, c.nx _ _ _ (R.updL e ev h1 hf t.reverse) h⟩
theorem ds_clear {i : Nat} : DS C W (tDrop (tBM0 C.K "list" rClear (tVar i))) (fun k env => ownL env i fun f _ => k.nx (env.set i (.o f (.lst [])))) := by
  intro G env σ H k D R c h
  obtain ⟨a, f, ds, us, e, ev, hf, h1, t, h⟩ := ownL_val R h
  exact ⟨_, ev, .inl ⟨rfl, us, .inl (.inl h1)⟩, a, us, rfl, rfl, h1, c.nx _ _ _ (R.updL e ev h1 hf RepL.nil) h⟩
theorem dropLast_take (ds : List Dv.D) : ds.dropLast = ds.take (ds.length - 1) := by rw [List.dropLast_eq_take]
theorem ds_popd {i : Nat} : DS C W (tDrop (tBM0 C.K "list" rPop (tVar i))) (fun k env => ownL env i fun f ds => ds ≠ [] ∧ k.nx (env.set i (.o f (.lst ds.dropLast)))) := by
  intro G env σ H k D R c h
  obtain ⟨a, f, ds, us, e, ev, hf, h1, t, hne, h⟩ := ownL_val R h
  have hp : 0 < us.length := by rw [← t.1]; exact List.length_pos_iff.mpr hne
  have t' : RepL C (fun b => Pf C (Own env σ) f b ∧ b ≠ a) H ds.dropLast us.dropLast := by
    rw [List.dropLast_eq_take, List.dropLast_eq_take, t.1]
    exact t.take _
  exact ⟨_, ev, .inl ⟨rfl, us, .inl (.inl h1)⟩, a, us, us[us.length - 1], rfl, rfl, h1, by simp [hp], c.nx _ _ _ (R.updL e ev h1 hf t') h⟩
theorem ds_pop {i j : Nat} : DS C W (tAsg (tBM0 C.K "list" rPop (tVar i)) (gName j)) (fun k env => ownL env i fun g es => (match es[es.length - 1]? with
        | some d => put1 j g d (env.set i (.o g (.lst es.dropLast))) k.nx
        | none => False)) := by
  intro G env σ H k D R c h
  obtain ⟨a, f, ds, us, e, ev, hf, h1, t, h⟩ := ownL_val R h
  split at h
  · rename_i d ed
    obtain ⟨v, ew, r⟩ := t.get ed
    rw [t.1] at ew
    have t' : RepL C (fun b => Pf C (Own env σ) f b ∧ b ≠ a) H ds.dropLast us.dropLast := by
      rw [List.dropLast_eq_take, List.dropLast_eq_take, t.1]
      exact t.take _
    have R1 := R.updL e ev h1 hf t'
    have own : ∀ b, Own (env.set i (.o f (.lst ds.dropLast))) σ b → Own env σ b := by
      rintro b ⟨m, g, z, e1, e2⟩
      rw [List.getElem?_set] at e1
      by_cases hm : i = m
      · subst hm; exact ⟨i, f, _, e, e2⟩
      · rw [if_neg hm] at e1; exact ⟨m, g, z, e1, e2⟩
    have r2 : Rep C (Pf C (Own (env.set i (.o f (.lst ds.dropLast))) σ) f) (upd H a (.lst us.dropLast)) d v :=
      (Rep.keep (Keep.upd h1 (.inl ⟨_, rfl⟩) fun z => z.2 rfl) r).imp fun b _ z => z.1.anti fun _ y => own b y
    obtain ⟨e2, q, R2, _, _⟩ := put1_ok R1 r2 h
    exact ⟨_, ev, .inl ⟨rfl, us, .inl (.inl h1)⟩, a, us, v, rfl, rfl, h1, ew, c.nx _ _ _ R2 q⟩
  · exact h.elim
theorem ixN_seqIx {n : Nat} {z : Int} {m : Nat} (h : Dv.ixN n z = some m) : seqIndex? z n = some m := (L2.ixN_seq (show L2.ixN n z = some m from h)).1
theorem ds_appPop {i j : Nat} {tn : TE} {wn : WpE} (hn : DE C W tn wn) : DS C W (tDrop (tBM C.K "list" rAppend (tVar i) (tCons (tBM C.K "list" rPopAt (tVar j) (tCons tn tNil)) tNil))) (fun k env => ownL env i fun f ds => ownL env j fun g es => wn env (fun z => match z.d with
      | .int z => i ≠ j ∧ (match Dv.ixN es.length z with
        | some m => (match es[m]? with
          | some d => ((-(2 ^ 63) ≤ z ∧ z < 2 ^ 63) ∧ ds.length < line) ∧ k.nx ((env.set j (.o g (.lst (es.eraseIdx m)))).set i (.o (f.inf g) (.lst (ds ++ [d]))))
          | none => False)
        | none => False)
      | _ => False) fun x => k.ex x env) := by
  intro G env σ H k D R c h
  obtain ⟨a, f, ds, us, e, ev, hf, h1, t, h⟩ := ownL_val R h
  obtain ⟨b, g, es, ws, e', ev', hg, h1', t', h⟩ := ownL_val R h
  refine ⟨_, ev, .inl ⟨rfl, us, .inl (.inl h1)⟩, ?_⟩
  refine ⟨_, ev', .inl ⟨rfl, ws, .inl (.inl h1')⟩, ?_⟩
  refine hn G env σ H _ _ _ R (c.xok R) ?_ h
  intro v H1 r s1 p q
  have R1 := R.same s1
  split at q
  · rename_i z ez
    obtain ⟨hij, q⟩ := q
    split at q
    · rename_i m em
      split at q
      · rename_i d ed
        obtain ⟨x, ex, rx⟩ := (t'.same s1).get ed
        have nab : a ≠ b := fun z => hij (R.inj i j _ _ _ _ a e e' ev (by rw [ev', z]))
        have T' : RepL C (fun y => Pf C (Own env σ) g y ∧ y ≠ b) H1 (es.eraseIdx m) (ws.eraseIdx m) := (t'.same s1).eraseIdx m
        have RA := R1.updL e' ev' (s1 _ _ h1') hg T'
        have e2 : (env.set j (.o g (.lst (es.eraseIdx m))))[i]? = some (.o f (.lst ds)) := by rw [List.getElem?_set_ne (Ne.symm hij)]; exact e
        have h2 : (upd H1 b (.lst (ws.eraseIdx m))) a = some (.lst us) := by rw [upd_ne nab]; exact s1 _ _ h1
        have own : ∀ y, Own (env.set j (.o g (.lst (es.eraseIdx m)))) σ y → Own env σ y := by
          rintro y ⟨l, f', d', e1, e2⟩
          rw [List.getElem?_set] at e1
          by_cases hl : j = l
          · subst hl; exact ⟨j, g, _, e', e2⟩
          · rw [if_neg hl] at e1; exact ⟨l, f', d', e1, e2⟩
        have ha : Own env σ a := ⟨i, f, _, e, ev⟩
        have kb : Keep (fun y => y ≠ b) H1 (upd H1 b (.lst (ws.eraseIdx m))) := Keep.upd (s1 _ _ h1') (.inl ⟨_, rfl⟩) fun z => z rfl
        have hb : Own env σ b := ⟨j, g, _, e', ev'⟩
        refine ⟨b, ws, z, m, x, rfl, by rw [p.int ez], s1 _ _ h1', q.1.1.1, q.1.1.2, by rw [← t'.1]; exact ixN_seqIx em, ex, ?_⟩
        refine ⟨a, us, x, rfl, rfl, h2, by rw [← t.1, ← line_eq]; exact q.1.2, c.nx _ _ _ ?_ q.2⟩
        refine RA.updL e2 ev h2 (Fl.inf_ne hf hg) ((RepL.map (fun d v r => ?_) t).app (.cons ?_ .nil))
        · exact ((r.same s1).keep (kb.imp fun y z => notO_ne (G := G) hf z.1 hb)).imp fun y _ z => ⟨Pf.inf_l (z.1.anti fun _ w => own y w), z.2⟩
        · exact (rx.keep (kb.imp fun y z => z.2)).imp fun y _ z => ⟨Pf.inf_r (z.1.anti fun _ w => own y w), notO_ne (G := G) hg z.1 ha⟩
      · exact q.elim
    · exact q.elim
  · exact q.elim
theorem ds_rot {i : Nat} {tn : TE} {wn : WpE} (hn : DE C W tn wn) : DS C W (tDrop (tBM C.K "list" rAppend (tVar i) (tCons (tBM C.K "list" rPopAt (tVar i) (tCons tn tNil)) tNil))) (fun k env => ownL env i fun f ds => wn env (fun z => match z.d with
      | .int z => (match Dv.ixN ds.length z with
        | some m => (match ds[m]? with
          | some d => ((-(2 ^ 63) ≤ z ∧ z < 2 ^ 63) ∧ ds.length < line) ∧ k.nx (env.set i (.o f (.lst (ds.eraseIdx m ++ [d]))))
          | none => False)
        | none => False)
      | _ => False) fun x => k.ex x env) := by
  intro G env σ H k D R c h
  obtain ⟨a, f, ds, us, e, ev, hf, h1, t, h⟩ := ownL_val R h
  refine ⟨_, ev, .inl ⟨rfl, us, .inl (.inl h1)⟩, _, ev, .inl ⟨rfl, us, .inl (.inl h1)⟩, ?_⟩
  refine hn G env σ H _ _ _ R (c.xok R) ?_ h
  intro v H1 r s1 p q
  have R1 := R.same s1
  split at q
  case h_2 => exact q.elim
  rename_i z ez
  split at q
  case h_2 => exact q.elim
  rename_i m em
  split at q
  case h_2 => exact q.elim
  rename_i d ed
  have t1 := t.same s1
  obtain ⟨x, ex, rx⟩ := t1.get ed
  have RA := R1.updL e ev (s1 _ _ h1) hf (t1.eraseIdx m)
  have hi : i < env.length := (List.getElem?_eq_some_iff.mp e).1
  have own : ∀ y, Own (env.set i (.o f (.lst (ds.eraseIdx m)))) σ y → Own env σ y := by
    rintro y ⟨l, f', d', e1, e2⟩
    rw [List.getElem?_set] at e1
    by_cases hl : i = l
    · subst hl; exact ⟨i, f, _, e, e2⟩
    · rw [if_neg hl] at e1; exact ⟨l, f', d', e1, e2⟩
  have kb : Keep (fun y => y ≠ a) H1 (upd H1 a (.lst (us.eraseIdx m))) := Keep.upd (s1 _ _ h1) (.inl ⟨_, rfl⟩) fun z => z rfl
  have el : us.length = ds.length := t.1.symm
  have ml : (us.eraseIdx m).length < sizeLine := by
    have := List.length_eraseIdx_le us m
    rw [← line_eq]
    omega
  refine ⟨a, us, z, m, x, rfl, by rw [p.int ez], s1 _ _ h1, q.1.1.1, q.1.1.2, by rw [el]; exact ixN_seqIx em, ex, ?_⟩
  refine ⟨a, us.eraseIdx m, x, rfl, rfl, upd_same, ml, c.nx _ _ _ ?_ q.2⟩
  have e2 : (env.set i (.o f (.lst (ds.eraseIdx m))))[i]? = some (.o f (.lst (ds.eraseIdx m))) := by rw [List.getElem?_set_self hi]
  have RB := RA.updL (g := f) (es := ds.eraseIdx m ++ [d]) (us := us.eraseIdx m ++ [x]) e2 ev upd_same hf ((RepL.map (fun d v r => ?_) (t1.eraseIdx m)).app (.cons ?_ .nil))
  · rw [List.set_set] at RB
    exact RB
  · exact (r.keep (kb.imp fun y z => z.2)).imp fun y _ z => ⟨z.1.anti fun _ w => own y w, z.2⟩
  · exact (rx.keep (kb.imp fun y z => z.2)).imp fun y _ z => ⟨z.1.anti fun _ w => own y w, z.2⟩
theorem ds_popAt {i : Nat} {tn : TE} {wn : WpE} (hn : DE C W tn wn) : DS C W (tDrop (tBM C.K "list" rPopAt (tVar i) (tCons tn tNil))) (fun k env => ownL env i fun f ds => wn env (fun z => match z.d with
      | .int z => (match Dv.ixN ds.length z with
        | some m => (-(2 ^ 63) ≤ z ∧ z < 2 ^ 63) ∧ k.nx (env.set i (.o f (.lst (ds.eraseIdx m))))
        | none => False)
      | _ => False) fun x => k.ex x env) := by
  intro G env σ H k D R c h
  obtain ⟨a, f, ds, us, e, ev, hf, h1, t, h⟩ := ownL_val R h
  refine ⟨_, ev, .inl ⟨rfl, us, .inl (.inl h1)⟩, ?_⟩
  refine hn G env σ H _ _ _ R (c.xok R) ?_ h
  intro v H1 r s1 p q
  have R1 := R.same s1
  split at q
  case h_2 => exact q.elim
  rename_i z ez
  split at q
  case h_2 => exact q.elim
  rename_i m em
  have t1 := t.same s1
  have RA := R1.updL e ev (s1 _ _ h1) hf (t1.eraseIdx m)
  have el : us.length = ds.length := t.1.symm
  have hm : m < us.length := by
    rw [el]
    exact (L2.ixN_seq (show L2.ixN ds.length z = some m from em)).2.1
  exact ⟨a, us, z, m, us[m], rfl, by rw [p.int ez], s1 _ _ h1, q.1.1, q.1.2, by rw [el]; exact ixN_seqIx em, by simp [hm], c.nx _ _ _ RA q.2⟩
/-! x[k] = e -/
def rSetA : V → V → V → Hp → (Hp → Prop) → Prop := fun o i v H Q => rSetL o i v H Q ∨ ∃ a H', o = .ref a ∧ DPut H a i v H' ∧ Q H'
theorem set_any {X : Cx} (hu : X.A.units + 1 < cLine) : PSet X rSetA := by
  intro pins s σ H o i v ov iv u Q I ro ri rv h
  rcases h with h | ⟨a, H', rfl, g, q⟩
  · exact set_list pins s σ H o i v ov iv u Q I ro ri rv h
  · obtain rfl : ov = Value.ref a := ro
    exact d_setItem hu I g ri rv fun s' I' => ⟨H', I', q⟩
theorem repK_put {P : Addr → Prop} {k : Key} {d : Dv.D} {v : V} (r : Rep C P H d v) {kvs : List (Key × Dv.D)} {vs : List (Key × V)} (t : RepK C P H kvs vs) : RepK C P H (dput kvs k d) (putK vs k v) := by
  have hany : (kvs.any fun kv => decide (kv.1 = k)) = (vs.any fun kv => decide (kv.1 = k)) := by
    have e1 : (kvs.any fun kv => decide (kv.1 = k)) = (kvs.map (·.1)).any fun z => decide (z = k) := by rw [List.any_map]; rfl
    have e2 : (vs.any fun kv => decide (kv.1 = k)) = (vs.map (·.1)).any fun z => decide (z = k) := by rw [List.any_map]; rfl
    rw [e1, e2, t.1]
  unfold dput putK
  rw [hany]
  have hl : kvs.length = vs.length := by have := congrArg List.length t.1; simpa using this
  have key : ∀ i : Nat, (kvs[i]?).map (·.1) = (vs[i]?).map (·.1) := fun i => by
    have := congrArg (fun l => l[i]?) t.1
    simpa using this
  split
  · refine ⟨?_, fun i d' v' e1 e2 => ?_⟩
    · apply List.ext_getElem?
      intro i
      simp only [List.getElem?_map, Option.map_map]
      have hk := key i
      cases h1 : kvs[i]? with
      | none =>
        rw [h1] at hk
        cases h2 : vs[i]? with
        | none => rfl
        | some y => rw [h2] at hk; cases hk
      | some x =>
        rw [h1] at hk
        cases h2 : vs[i]? with
        | none => rw [h2] at hk; cases hk
        | some y =>
          rw [h2] at hk
          have hk : x.1 = y.1 := Option.some.inj hk
          simp only [Option.map_some, Function.comp]
          by_cases c : x.1 = k
          · rw [if_pos c, if_pos (hk ▸ c)]; simp [hk]
          · rw [if_neg c, if_neg (hk ▸ c)]; simp [hk]
    · simp only [List.getElem?_map, Option.map_map, Option.map_eq_some_iff, Function.comp] at e1 e2
      obtain ⟨x, h1, e1⟩ := e1
      obtain ⟨y, h2, e2⟩ := e2
      have hk := key i
      rw [h1, h2] at hk
      have hk : x.1 = y.1 := Option.some.inj hk
      by_cases c : x.1 = k
      · rw [if_pos c] at e1
        rw [if_pos (hk ▸ c)] at e2
        subst e1 e2
        exact r
      · rw [if_neg c] at e1
        rw [if_neg (hk ▸ c)] at e2
        subst e1 e2
        exact t.2 i x.2 y.2 (by rw [List.getElem?_map, h1]; rfl) (by rw [List.getElem?_map, h2]; rfl)
  · refine ⟨by simp [t.1], fun i d' v' e1 e2 => ?_⟩
    rw [List.map_append] at e1 e2
    by_cases hi : i < kvs.length
    · rw [List.getElem?_append_left (by simpa using hi)] at e1
      rw [List.getElem?_append_left (by simpa using hl ▸ hi)] at e2
      exact t.2 i d' v' e1 e2
    · rw [List.getElem?_append_right (by simp; omega)] at e1
      rw [List.getElem?_append_right (by simp; omega)] at e2
      simp only [List.length_map, ← hl] at e1 e2
      rcases hz : i - kvs.length with _ | n
      · rw [hz] at e1 e2
        simp at e1 e2
        subst e1 e2
        exact r
      · rw [hz] at e1
        simp at e1
theorem ds_setIx {i : Nat} {te tn : TE} {we wn : WpE} (he : DE C W te we) (hn : DE C W tn wn) : DS C W (tAsg te (gSub (tVar i) tn rSetA)) (fun k env => ownD env i fun f d0 => we env (fun r => wn env (fun j => elW r fun g d => (match d0, j.d with
      | .lst ds, .int z => (match Dv.ixN ds.length z with | some m => k.nx (env.set i (.o (f.inf g) (.lst (ds.set m d)))) | none => False)
      | .dic kvs, z => (match keyOf z with | some key => kvs.length < line ∧ k.nx (env.set i (.o (f.inf g) (.dic (dput kvs key d)))) | none => False)
      | _, _ => False)) fun x => k.ex x env) fun x => k.ex x env) := by
  intro G env σ H k D R c h
  have h : ownD env i _ := h
  unfold ownD at h
  split at h
  · rename_i f d0 e
    obtain ⟨a, ev, hf, r0⟩ := R.sl i _ e
    have ha : Own env σ a := ⟨i, f, _, e, ev⟩
    refine he G env σ H _ _ _ R (c.xok R) ?_ h
    intro v H1 r s1 p q
    refine ⟨_, ev, ?_⟩
    refine hn G env σ H1 _ _ _ (R.same s1) (c.xok (R.same s1)) ?_ q
    intro u H2 j s2 pj q
    simp only [elW_] at q
    obtain ⟨hr, q⟩ := q
    have s12 := s1.trans s2
    have R2 := R.same s12
    have el : Rep C (fun b => Pf C (Own env σ) (f.inf r.fl) b ∧ b ≠ a) H2 r.d v := ((p.same s2).el).imp fun b _ z => ⟨Pf.inf_r z, notO_ne (G := G) hr z ha⟩
    split at q
    · rename_i ds z ez _
      split at q
      · rename_i m em
        obtain ⟨vs, h1, t⟩ := r0
        refine .inl ⟨a, vs, z, m, rfl, pj.int ez, s12 _ _ h1, ?_, c.nx _ _ _ (R2.updL e ev (s12 _ _ h1) (Fl.inf_ne hf hr) (((t.same s12).imp fun b _ z => ⟨Pf.inf_l z.1, z.2⟩).set m el)) q⟩
        rw [← t.1]; exact em
      · exact q.elim
    · rename_i kvs _
      split at q
      · rename_i key ek
        obtain ⟨vs, h1, t⟩ := r0
        have h2 := s12 _ _ h1
        have t2 : RepK C (fun b => Pf C (Own env σ) (f.inf r.fl) b ∧ b ≠ a) H2 kvs vs := (t.keep (Keep.same s12)).imp fun b _ z => ⟨Pf.inf_l z.1, z.2⟩
        have hlen : kvs.length = vs.length := by have := congrArg List.length t.1; simpa using this
        refine .inr ⟨a, _, rfl, .inl ⟨vs, key, h2, rep_key pj.el ek, by rw [← hlen, ← line_eq]; exact q.1, rfl⟩, c.nx _ _ _ ?_ q.2⟩
        refine R2.updO e ev (Fl.inf_ne hf hr) ⟨_, upd_same, ?_⟩
        exact (repK_put el t2).keep (Keep.upd h2 (.inr ⟨_, rfl⟩) fun z => z.2 rfl)
      · exact q.elim
    · exact q.elim
  · exact h.elim
end
end Dv

namespace Dv
open PySem PySem.Spec PyProof.Rows L2
section
variable {C : Cc} {W : WX} {O : Addr → Prop} {H Hb : Hp}
/-! ### zip -/
abbrev zipD (ds es : List D) : List D := List.zipWith (fun a b => .tup [a, b]) ds es
theorem zipD_get {ds es : List D} {i : Nat} {d e : D} (h1 : ds[i]? = some d) (h2 : es[i]? = some e) : (zipD ds es)[i]? = some (.tup [d, e]) := by
  rw [List.getElem?_zipWith, h1, h2]
theorem rep_pair {P : Addr → Prop} {T : Addr} {d e : D} {x y : V} (hT : H T = none) (rx : Rep C P H d x) (ry : Rep C P H e y) : Rep C P (upd H T (.tup [x, y])) (.tup [d, e]) (.ref T) := by
  have s := same_upd (o := HO.tup [x, y]) hT
  have t : RepL C P (upd H T (.tup [x, y])) [d, e] [x, y] := .cons (rx.same s) (.cons (ry.same s) .nil)
  exact .tup (.inl (.inl upd_same)) t.1 t.2
theorem itok_zip {P : Addr → Prop} {a b : Addr} {ds es : List D} {vs us : List V} (pa : P a) (pb : P b) (h1 : H a = some (.lst vs)) (h2 : H b = some (.lst us)) (t : RepL C P H ds vs) (u : RepL C P H es us) : ItOk C P (Itz C.K a b) (zipD ds es) H := by
  intro H2 k
  have q1 : SqL C.K H2 a vs := .inl (.inl (k.p _ _ pa h1))
  have q2 : SqL C.K H2 b us := .inl (.inl (k.p _ _ pb h2))
  have t2 := t.keep k
  have u2 := u.keep k
  have l1 := t.1
  have l2 := u.1
  refine ⟨fun i hi => ?_, fun i hi => ⟨vs, us, q1, q2, by rw [List.length_zipWith] at hi; omega⟩, fun i x H3 y hi => ?_⟩
  · rw [List.length_zipWith] at hi
    exact ⟨vs, us, vs[i]'(by omega), us[i]'(by omega), q1, q2, List.getElem?_eq_getElem _, List.getElem?_eq_getElem _⟩
  · obtain ⟨T, x, y, rfl, hT, rfl, y1, y2⟩ := y
    obtain ⟨d, e1, r1⟩ := t2.getV (y1 vs q1)
    obtain ⟨e, e2, r2⟩ := u2.getV (y2 us q2)
    exact ⟨same_upd hT, _, zipD_get e1 e2, rep_pair hT r1 r2⟩
theorem itok2_zip {P P2 : Addr → Prop} {a b : Addr} {ds es : List D} {vs us : List V} (k0 : ∀ a, P2 a → P a) (pa : P a) (pb : P b) (h1 : H a = some (.lst vs)) (h2 : H b = some (.lst us)) (t : RepL C P2 H ds vs) (u : RepL C P2 H es us) : ItOk2 C P P2 (Itz C.K a b) (zipD ds es) H := by
  intro H2 k
  have q1 : SqL C.K H2 a vs := .inl (.inl (k.p _ _ pa h1))
  have q2 : SqL C.K H2 b us := .inl (.inl (k.p _ _ pb h2))
  have t2 := t.keep (k.imp k0)
  have u2 := u.keep (k.imp k0)
  have l1 := t.1
  have l2 := u.1
  refine ⟨fun i hi => ?_, fun i hi => ⟨vs, us, q1, q2, by rw [List.length_zipWith] at hi; omega⟩, fun i x H3 y hi => ?_⟩
  · rw [List.length_zipWith] at hi
    exact ⟨vs, us, vs[i]'(by omega), us[i]'(by omega), q1, q2, List.getElem?_eq_getElem _, List.getElem?_eq_getElem _⟩
  · obtain ⟨T, x, y, rfl, hT, rfl, y1, y2⟩ := y
    obtain ⟨d, e1, r1⟩ := t2.getV (y1 vs q1)
    obtain ⟨e, e2, r2⟩ := u2.getV (y2 us q2)
    exact ⟨same_upd hT, _, zipD_get e1 e2, rep_pair hT r1 r2⟩
theorem itok_zipT {P : Addr → Prop} {a b : Addr} {ds es : List D} {vs us : List V} (h1 : SqT C.K H a vs) (h2 : SqT C.K H b us) (t : RepL C P H ds vs) (u : RepL C P H es us) : ItOk C P (RZ.ItzT C.K a b) (zipD ds es) H := by
  intro H2 k
  have q1 : SqT C.K H2 a vs := k.tup h1
  have q2 : SqT C.K H2 b us := k.tup h2
  have t2 := t.keep k
  have u2 := u.keep k
  have l1 := t.1
  have l2 := u.1
  refine ⟨fun i hi => ?_, fun i hi => ⟨vs, us, q1, q2, by rw [List.length_zipWith] at hi; omega⟩, fun i x H3 y hi => ?_⟩
  · rw [List.length_zipWith] at hi
    exact ⟨vs, us, vs[i]'(by omega), us[i]'(by omega), q1, q2, List.getElem?_eq_getElem _, List.getElem?_eq_getElem _⟩
  · obtain ⟨T, x, y, rfl, hT, rfl, y1, y2⟩ := y
    obtain ⟨d, e1, r1⟩ := t2.getV (y1 vs q1)
    obtain ⟨e, e2, r2⟩ := u2.getV (y2 us q2)
    exact ⟨same_upd hT, _, zipD_get e1 e2, rep_pair hT r1 r2⟩
theorem Pf.inf_l' {O : Addr → Prop} {f g : Fl} {a : Addr} (h : Pf C O f a) : Pf C O (f.inf g) a := Pf.inf_l h
theorem di_zip {ta tb : TE} {wa wb : WpE} (ha : DE C W ta wa) (hb : DE C W tb wb) : DI C W (RZ.iZipA C.K (tCons ta (tCons tb tNil))) (fun env Q X => wa env (fun x => wb env (fun y => match x.d, y.d with
    | .lst ds, .lst es => Q (x.fl.inf y.fl) (List.zipWith (fun a b => .tup [a, b]) ds es)
    | .tup ds, .tup es => Q (x.fl.inf y.fl) (List.zipWith (fun a b => .tup [a, b]) ds es)
    | _, _ => False) X) X) := by
  intro G env σ H Q Qx Rr R hx hq h
  refine ha G env σ H _ Qx _ R hx ?_ h
  intro v1 H1 r1 s1 p1 h1
  refine hb G env σ H1 _ Qx _ (R.same s1) (hx.same s1) ?_ h1
  intro v2 H2 r2 s2 p2 h2
  have p1' := p1.same s2
  split at h2
  · rename_i ds es e1 e2
    obtain ⟨a, vs, rfl, hp, g1, t⟩ := p1'.lstP e1
    obtain ⟨b, us, rfl, hp2, g2, u⟩ := p2.lstP e2
    refine ⟨a, b, vs, us, rfl, .inl ⟨.inl (.inl g1), .inl (.inl g2), hq _ H2 _ _ (s1.trans s2) (fun P k => ?_) h2⟩⟩
    exact itok_zip (k _ ⟨_, g1⟩ (Pf.inf_l hp)) (k _ ⟨_, g2⟩ (Pf.inf_r hp2)) g1 g2 (t.imp fun a z q => k a z (Pf.inf_l q)) (u.imp fun a z q => k a z (Pf.inf_r q))
  · rename_i ds es e1 e2
    obtain ⟨a, vs, rfl, g1, t⟩ := p1'.tup e1
    obtain ⟨b, us, rfl, g2, u⟩ := p2.tup e2
    refine ⟨a, b, vs, us, rfl, .inr ⟨g1, g2, hq _ H2 _ _ (s1.trans s2) (fun P k => ?_) h2⟩⟩
    exact itok_zipT g1 g2 (t.imp fun a z q => k a z (Pf.inf_l q)) (u.imp fun a z q => k a z (Pf.inf_r q))
  · exact h2.elim
theorem dic_zip {ta tb : TE} {wa wb : WpE} (ha : DE C W ta wa) (hb : DE C W tb wb) : DIc C W (RZ.iZipA C.K (tCons ta (tCons tb tNil))) (fun env Q X => wa env (fun x => wb env (fun y => match x.d, y.d with
    | .lst ds, .lst es => Q (x.efl.inf y.efl) (List.zipWith (fun a b => .tup [a, b]) ds es)
    | .tup ds, .tup es => Q (x.efl.inf y.efl) (List.zipWith (fun a b => .tup [a, b]) ds es)
    | _, _ => False) X) X) := by
  intro G env σ H Q Qx Rr R hx hq h
  refine ha G env σ H _ Qx _ R hx ?_ h
  intro v1 H1 r1 s1 p1 h1
  refine hb G env σ H1 _ Qx _ (R.same s1) (hx.same s1) ?_ h1
  intro v2 H2 r2 s2 p2 h2
  have p1' := p1.same s2
  split at h2
  · rename_i ds es e1 e2
    obtain ⟨a, vs, rfl, hp, g1, t⟩ := p1'.lstE e1
    obtain ⟨b, us, rfl, hp2, g2, u⟩ := p2.lstE e2
    refine ⟨a, b, vs, us, rfl, .inl ⟨.inl (.inl g1), .inl (.inl g2), hq _ H2 _ _ (s1.trans s2) (fun P P2 k k2 k3 => ?_) h2⟩⟩
    exact itok2_zip k3 (k _ ⟨_, g1⟩ hp) (k _ ⟨_, g2⟩ hp2) g1 g2 (t.imp fun a z q => k2 a z (Pf.inf_l q)) (u.imp fun a z q => k2 a z (Pf.inf_r q))
  · rename_i ds es e1 e2
    obtain ⟨a, vs, rfl, g1, t⟩ := p1'.tup e1
    obtain ⟨b, us, rfl, g2, u⟩ := p2.tup e2
    refine ⟨a, b, vs, us, rfl, .inr ⟨g1, g2, hq _ H2 _ _ (s1.trans s2) (fun P P2 k k2 k3 => ?_) h2⟩⟩
    exact (itok_zipT g1 g2 (t.imp fun a z q => k2 a z (Pf.inf_l (by rw [← p1'.efl_tup e1]; exact q))) (u.imp fun a z q => k2 a z (Pf.inf_r (by rw [← p2.efl_tup e2]; exact q)))).two k3
  · exact h2.elim
end
end Dv

namespace Dv
open PySem PySem.Spec PyProof.Rows L2
/-! ### except clauses with and without names -/
/-- an except clause: where its class stands, its name's slot, its suite -/
structure Cl where
  c : Addr
  i : Option Nat
  t : Addr → Value → Option Addr → TS
def unname (o : Option Nat) (σ : L2.St) : L2.St := match o with
  | none => σ
  | some j => σ.set j none
def named (o : Option Nat) (a : Addr) (σ : L2.St) : L2.St := match o with
  | none => σ
  | some j => σ.set j (some (.ref a))
def behind (o : Option Nat) (D : Ends) : Ends := ⟨fun σ H => D.nx (unname o σ) H, D.rt, fun σ H => D.bk (unname o σ) H, fun σ H => D.ct (unname o σ) H⟩
def wCls (K : PySem.W.Frag) (Wout : WX) (D : Ends) : List Cl → WX
  | [] => Wout
  | k :: r => fun cls d σ H => ∃ b : Bool, PySem.W.exmOne K cls (.ref k.c) = some b ∧ (b = true → ∀ a, H a = none → k.t a cls d (behind k.i D) (named k.i a σ) H) ∧ (b = false → wCls K Wout D r cls d σ H)
/-- the clauses of the text -/
inductive ClOk (X : Cx) : List ExceptHandler → List Cl → Prop
  | nil : ClOk X [] []
  | plain {x : Str} {c : Addr} {ts : Addr → Value → Option Addr → TS} {s0 : Stmt} {ss : List Stmt} {p1 p2 : Pos} {hs : List ExceptHandler} {ks : List Cl} (g : Gl X x) (db : (x == ("__debug__" : Str)) = false) (m : X.mg x = some (.ref c))
      (su : ∀ (a : Addr) (o : Obj) (cls : Value) (d : Option Addr) (pn : List (Addr × Obj)), Zc cls d o → (∃ vs, o.data = .fields vs) → PSs (X.suite a ((a, o) :: pn)) (s0 :: ss) (ts a cls d)) (r : ClOk X hs ks) :
      ClOk X (.ExceptHandler (some (.Name x p1)) none (s0 :: ss) p2 :: hs) (⟨c, none, ts⟩ :: ks)
  | named {x n : Str} {c : Addr} {i : Nat} {ts : Addr → Value → Option Addr → TS} {s0 : Stmt} {ss : List Stmt} {p1 p2 : Pos} {hs : List ExceptHandler} {ks : List Cl} (g : Gl X x) (db : (x == ("__debug__" : Str)) = false) (m : X.mg x = some (.ref c))
      (hi : X.N[i]? = some n) (hl : X.env.kindOf n = some .local)
      (su : ∀ (a : Addr) (o : Obj) (cls : Value) (d : Option Addr) (pn : List (Addr × Obj)), Zc cls d o → (∃ vs, o.data = .fields vs) → PSs (X.suite a ((a, o) :: pn)) (s0 :: ss) (ts a cls d)) (r : ClOk X hs ks) :
      ClOk X (.ExceptHandler (some (.Name x p1)) (some n) (s0 :: ss) p2 :: hs) (⟨c, some i, ts⟩ :: ks)
section
variable {X : Cx} {body : List Stmt} {h0 : ExceptHandler} {hs : List ExceptHandler} {ks : List Cl} {pos : Pos} {tb : WX → TS} {Wout : WX}
theorem fields_free {h B : Heap} {l : List PySem.Env} {a : Addr} {o : Obj} {vs : Array Value} (ff : h.FunFrames B l) (e : h.get? a = some o) (dd : o.data = .fields vs) : a ∉ frs l := by
  intro hm
  obtain ⟨_, z, ez, nf⟩ := ff.mem hm
  obtain rfl := Option.some.inj (e.symm.trans ez)
  exact nf _ dd
/-- the clauses, one after the other, of an error that has landed -/
theorem run_cls {pins : List (Addr × Obj)} {B : Heap} {D : Ends} {σ : L2.St} {H : Hp} {a : Addr} {cls : Value} {d : Option Addr} {sI s : Shared} (ok : X.Ok) (hst : X.stack = X.env :: X.outer) (hf : X.env.frame = some X.env.locals) (nd : X.N.Nodup) (tk : Takes X Wout)
    (J : Inv X pins σ H sI) (nb : ∀ b o, sI.heap.get? b = some o → b ∉ frs X.stack → B.get? b = some o) (up : sI.heap.UpToSlots s.heap) (fl : HandSPX.FlyingZ B (X.env :: X.outer) a (Zc cls d) s.heap) (na : H a = none) (os : s.os = sI.os) (ag : AllBare s.gens) :
    ∀ {hs : List ExceptHandler} {ks : List Cl}, ClOk X hs ks → wCls X.K Wout D ks cls d σ H → wpAny (model X.prog X.w) X.A (handleBy (.ref a) X.env hs) (SP X pins D) X.xe s := by
  have J1 : Inv X pins σ H s := J.landed nb fl.1 up os ag
  obtain ⟨o1, v1, g1, z1, d1⟩ := fl.there
  have notIn := fields_free fl.2.2.1 g1 d1
  have n1 : a ≠ X.env.locals := fun z => notIn (List.mem_filterMap.mpr ⟨X.env, List.mem_cons_self, by rw [hf, z]⟩)
  have n2 : a ∉ X.fs := fun hm => by
    obtain ⟨e, he, q⟩ := List.mem_filterMap.mp hm
    exact notIn (List.mem_filterMap.mpr ⟨e, List.mem_cons_of_mem _ he, q⟩)
  have S1 := J1.suite g1 d1 na n1 n2
  have look : PySem.W.Looks (model X.prog X.w) s.heap (typeOf (.ref a)) cls := fun _ _ _ _ k q => wpAny_typeOf_ref (k _ _ g1) (by rw [z1.1]; exact q)
  have seen : ∀ {x : Str} {c : Addr} {p : Pos} {Q : Value → Shared → Prop} {E : Value → Shared → Prop}, Gl X x → (x == ("__debug__" : Str)) = false → X.mg x = some (.ref c) → Q (.ref c) s → wpAny (model X.prog X.w) (X.A.mark (some (.ref a))) (eval (.Name x p) X.env) Q E s :=
    fun g db m q => ld_glob (X := X.suite a ((a, o1) :: (X.pn ++ pins))) S1 g m q db
  intro hs ks k
  induction k with
  | nil =>
    intro w
    refine wpAny_handleBy_nil ?_
    obtain ⟨_, _, _, oe, vs, T, _, _, he, _, hd, h1, _⟩ := id fl
    unfold PySem.passOn
    refine wpAny_bind (wpAny_field he hd h1 ?_)
    rw [if_neg (show ¬ (Value.ref T == Value.none) = true by simp)]
    have last : wpAny (model X.prog X.w) X.A (setFlight (.ref a) X.env.frame) (fun _ s4 => wpAny (model X.prog X.w) X.A (throw (.ref a) : Sem Flow) (SP X pins D) X.xe s4) X.xe s := by
      rw [hf]
      exact HandSPX.setFlight_upZ fl fun h4 l4 u4 => wpAny_throw (tk _ _ ⟨a, B, sI, pins, σ, H, cls, d, rfl, J, nb, up.trans u4, .inr (.inr (by rw [hst]; exact l4)), na, os, ag, w⟩)
    first
      | exact wpAny_bind (wpAny_pure (wpAny_bind last))
      | exact wpAny_bind last
  | @plain x c ts s0 ss p1 p2 hs2 ks2 g db m su r ih =>
    rintro ⟨b, eb, yes, no⟩
    refine wpAny_handleBy_cons (codeAny_handlers_test (seen g db m ((PySem.W.exm_one (M := model X.prog X.w) J1.kIn look eb).here ?_))) (by intro q; cases q)
    cases b with
    | false => exact ih (no rfl)
    | true =>
      refine codeAny_handlers_suite (HandSPX.lands_againZ fl fun h4 l4 u4 => ?_)
      have J4 : Inv X pins σ H { s with heap := h4 } := J.landed nb l4.1 (up.trans u4) os ag
      obtain ⟨o4, v4, g4, z4, d4⟩ := l4.there
      refine wpAny_mono ((su a o4 cls d (X.pn ++ pins) z4 ⟨_, d4⟩).run [] _ _ H _ (J4.suite g4 d4 na n1 n2) (yes rfl a na)) (fun f s6 e => ?_) fun _ _ z => z.elim
      cases f with
      | ret u => obtain ⟨v, σ6, H6, S6, r6, q6⟩ := e; exact ⟨v, σ6, H6, S6.unsuite ok, r6, q6⟩
      | next => obtain ⟨σ6, H6, S6, q6⟩ := e; exact ⟨σ6, H6, S6.unsuite ok, q6⟩
      | brk => obtain ⟨σ6, H6, S6, q6⟩ := e; exact ⟨σ6, H6, S6.unsuite ok, q6⟩
      | cont => obtain ⟨σ6, H6, S6, q6⟩ := e; exact ⟨σ6, H6, S6.unsuite ok, q6⟩
  | @named x n c i ts s0 ss p1 p2 hs2 ks2 g db m hi hl su r ih =>
    rintro ⟨b, eb, yes, no⟩
    refine wpAny_handleBy_cons (codeAny_handlers_test (seen g db m ((PySem.W.exm_one (M := model X.prog X.w) J1.kIn look eb).here ?_))) (by intro q; cases q)
    cases b with
    | false => exact ih (no rfl)
    | true =>
      refine codeAny_handlers_suite_as (HandSPX.lands_againZ fl fun h4 l4 u4 => ?_)
      have J4 : Inv X pins σ H { s with heap := h4 } := J.landed nb l4.1 (up.trans u4) os ag
      obtain ⟨o4, v4, g4, z4, d4⟩ := l4.there
      refine store_ok (X := X.suite a ((a, o4) :: (X.pn ++ pins))) (v := .ref a) (J4.suite g4 d4 na n1 n2) nd hi (.inl hl) rfl (fun s5 S5 => ?_) (.inr hl)
      refine wpAny_mono ((su a o4 cls d (X.pn ++ pins) z4 ⟨_, d4⟩).run [] s5 _ H _ S5 (yes rfl a na)) (fun f s6 e => ?_) fun _ _ z => z.elim
      cases f with
      | ret u => obtain ⟨v, σ6, H6, S6, r6, q6⟩ := e; exact gone_ok (S6.unsuite ok) nd hi hl fun s7 J7 => ⟨v, _, H6, J7, r6, q6⟩
      | next => obtain ⟨σ6, H6, S6, q6⟩ := e; exact gone_ok (S6.unsuite ok) nd hi hl fun s7 J7 => ⟨_, H6, J7, q6⟩
      | brk => obtain ⟨σ6, H6, S6, q6⟩ := e; exact gone_ok (S6.unsuite ok) nd hi hl fun s7 J7 => ⟨_, H6, J7, q6⟩
      | cont => obtain ⟨σ6, H6, S6, q6⟩ := e; exact gone_ok (S6.unsuite ok) nd hi hl fun s7 J7 => ⟨_, H6, J7, q6⟩
theorem ps_try_cls (hst : X.stack = X.env :: X.outer) (hf : X.env.frame = some X.env.locals) (nd : X.N.Nodup) (tk : Takes X Wout)
    (hb : ∀ (W : WX) (pn : List (Addr × Obj)) (xe : Value → Shared → Prop), Takes (X.tr pn xe) W → PassesOwn (model X.prog X.w) X.A X.env xe → PSs (X.tr pn xe) body (tb W)) (hk : ClOk X (h0 :: hs) ks) :
    PS X (.Try body (h0 :: hs) [] [] pos) (fun D σ H => tb (wCls X.K Wout D ks) D σ H) := by
  refine ⟨fun pins s σ H D I h => wpAny_Try_except ?_⟩
  have ok := I.ok
  have hfr : X.A.frames = some (X.env :: X.outer) := by rw [ok.frames, hst]
  refine wpAny_mono ((hb (wCls X.K Wout D ks) (X.pn ++ pins) (fun e s₁ => wpAny (model X.prog X.w) X.A (noteFrame e X.env) (fun _ s₂ => wpAny (model X.prog X.w) X.A (setFlight e none)
    (fun _ s₃ => wpAny (model X.prog X.w) X.A (handleBy e X.env (h0 :: hs)) (SP X pins D) X.xe s₃) X.xe s₂) X.xe s₁) (fun u s2 xx => ?_) PassesOwn.looking).run [] s σ H D (I.toTry _) h) (fun f s2 e => ?_) fun e s1 he => he
  · obtain ⟨a, B, sI, pn2, σ2, H2, cls, d, rfl, J, nb, up, sky, na, os, ag, w⟩ := xx
    have sk : Sky B (X.env :: X.outer) a (Zc cls d) X.env.locals s2.heap := by rw [← hst]; exact sky
    show wpAny (model X.prog X.w) X.A (noteFrame (.ref a) X.env) _ _ _
    exact Sky.land Zc.steady hfr hf sk fun h3 l3 u3 => run_cls (s := { s2 with heap := h3 }) ok hst hf nd tk (J.ofTry ok) nb (up.trans u3) l3 na os ag hk w
  · cases f with
    | ret u => obtain ⟨v, σ1, H1, J, r, q⟩ := e; exact ⟨v, σ1, H1, J.ofTry ok, r, q⟩
    | next => obtain ⟨σ1, H1, J, q⟩ := e; exact wpAny_execs_nil ⟨σ1, H1, J.ofTry ok, q⟩
    | brk => obtain ⟨σ1, H1, J, q⟩ := e; exact ⟨σ1, H1, J.ofTry ok, q⟩
    | cont => obtain ⟨σ1, H1, J, q⟩ := e; exact ⟨σ1, H1, J.ofTry ok, q⟩
end
end Dv

namespace Dv
open PySem PySem.Spec PyProof.Rows L2
/-! ### the error in hand -/
abbrev ZX := Addr → Option Addr → Str → Prop
/-- what the text's error classes are -/
structure ErrK (K : PySem.W.Frag) (ca : CaL) (mg : Str → Option Value) : Prop where
  exm : ∀ c ∈ ca.l, ∀ t ∈ ca.l, PySem.W.exmOne K (.ref (ca c)) (.ref (ca t)) = some (subCls c t)
  kit : ∀ c ∈ ca.l, ∀ t ∈ ca.l, PySem.W.kitOne K (.ref (ca c)) (.ref (ca t)) = some (subCls c t)
  kitV : ∀ c ∈ ca.l, PySem.W.kitOne K (.ref (ca c)) (.type "ValueError") = some true
  exc : ∀ c ∈ ca.l, ExcC K (ca c)
  fd : ∀ c ∈ ca.l, PySem.W.findIn K (.ref (ca c)) "divisor" = some none ∧ PySem.W.findIn K (.ref (ca c)) "name" = some none
  nm : ∀ c ∈ ca.l, mg c = some (.ref (ca c))
/-- the suite of an error -/
def HotZ (X : Cx) (ca : CaL) (zx : ZX) : Prop := ∀ a d c, zx a d c → c ∈ ca.l ∧ ∃ (X0 : Cx) (o : Obj) (pn : List (Addr × Obj)), X = X0.suite a ((a, o) :: pn) ∧ Zc (.ref (ca c)) d o ∧ ∃ vs, o.data = .fields vs
def clV (ca : CaL) (c : Str) : V := if c ∈ ca.l then .ref (ca c) else .ty "ValueError"
def rIsZ (ca : CaL) (zx : ZX) : List V → Hp → VK → Prop := fun xs H Q => ∃ (a : Addr) (d : Option Addr) (c t f : Str) (as : List D), xs = [.ref a, clV ca t] ∧ zx a d c ∧ ArgR H d f as ∧ (t ∈ ca.l ∨ t = "ValueError") ∧ Q (.bl (subCls c t)) H
def rIsZT (ca : CaL) (zx : ZX) (ts : List Str) : List V → Hp → VK → Prop := fun xs H Q => ∃ (a tp : Addr) (d : Option Addr) (c f : Str) (as : List D), xs = [.ref a, .ref tp] ∧ H tp = some (.tup (ts.map fun t => V.ref (ca t))) ∧ zx a d c ∧ ArgR H d f as ∧ (∀ t ∈ ts, t ∈ ca.l) ∧ Q (.bl (ts.any fun t => subCls c t)) H
section
variable {X : Cx} {ca : CaL} {zx : ZX}
theorem err_kit {D a : Addr} {od : Option Obj} {o : Obj} (C : ExcC X.K D) : PySem.W.KitX X.K (.ref a) (.ref D) (fun h => PySem.W.InstAt h a o D od) := by
  refine PySem.W.kitx_exc ?_ C.hg C.hk C.hs C.ha C.hn C.ht C.hm
  cases q : PySem.W.clsIn X.K D with
  | some _ => rfl
  | none =>
    have := C.hd
    unfold PySem.W.hasDictIn at this
    rw [q] at this
    cases this
theorem err_at {pins : List (Addr × Obj)} {σ : L2.St} {H : Hp} {s : Shared} {X0 : Cx} {a D : Addr} {o : Obj} {pn : List (Addr × Obj)} {d : Option Addr} {f : Str} {as : List Dv.D} (I : Inv (X0.suite a ((a, o) :: pn)) pins σ H s) (z : Zc (.ref D) d o) (hf : ∃ vs, o.data = .fields vs) (r : ArgR H d f as) :
    ∃ od, PySem.W.InstAt s.heap a o D od := by
  obtain ⟨g, _⟩ := I.pin (a, o) (List.mem_append_left _ List.mem_cons_self)
  obtain ⟨vs, hv⟩ := hf
  obtain ⟨z1, z2⟩ := z
  cases d with
  | none => exact ⟨none, g, z1, by unfold PySem.W.notCls; rw [hv], by rw [z2]; trivial⟩
  | some dd =>
    have hx : ∃ u, s.heap.get? dd = some u := by
      match as, r with
      | [], r => cases r
      | [y], ⟨d2, v, e, h, _⟩ => cases e; exact objOk_get (I.hok _ _ h)
    obtain ⟨u, hu⟩ := hx
    exact ⟨some u, g, z1, by unfold PySem.W.notCls; rw [hv], by rw [z2]; exact hu⟩
theorem call_isZ (E : ErrK X.K ca X.mg) (hz : HotZ X ca zx) : CallR X (.builtin "isinstance") (rIsZ ca zx) := by
  intro pins s σ H xs us Q I r h
  obtain ⟨a, d, c, t, f, as, rfl, z, ar, ht, q⟩ := h
  obtain ⟨u1, u2, rfl, r1, r2⟩ := vals2 r
  cases (show u1 = Value.ref a from r1)
  obtain ⟨hc, X0, o, pn, rfl, zc, hf⟩ := hz a d c z
  obtain ⟨od, J⟩ := err_at I zc hf ar
  have fin : ∀ {u : Value}, PySem.W.kitOne X0.K (.ref (ca c)) u = some (subCls c t) → wpAny (model X0.prog X0.w) (X0.suite a ((a, o) :: pn)).A (call (.builtin "isinstance") [.ref a, u]) (EP (X0.suite a ((a, o) :: pn)) pins σ Q) (X0.suite a ((a, o) :: pn)).xe s := fun {u} e =>
    PySem.W.kia_one (err_kit (X := X0) (E.exc c hc)) I.kIn J e (fun z => nomatch z) fun tk => ⟨.bl (subCls c t), H, I.kept (t' := tk) fun _ _ z => z, rfl, q⟩
  by_cases hl : t ∈ ca.l
  · have e2 : u2 = .ref (ca t) := by have r3 := r2; unfold clV at r3; rw [if_pos hl] at r3; exact r3
    subst e2
    exact fin (E.kit c hc t hl)
  · have e2 : u2 = .type "ValueError" := by have r3 := r2; unfold clV at r3; rw [if_neg hl] at r3; exact r3
    subst e2
    have et : t = "ValueError" := ht.resolve_left hl
    refine fin ?_
    rw [E.kitV c hc, et]
    unfold subCls
    simp [show ("ValueError" : Str) = Str.ofString "ValueError" from rfl]
theorem kitAny_all {K : PySem.W.Frag} {v : Value} {c : Str} : ∀ {ts : List Str} {us : List Value}, (∀ t ∈ ts, PySem.W.kitOne K v (.ref (ca t)) = some (subCls c t)) → us = ts.map (fun t => Value.ref (ca t)) → PySem.W.kitAny K v us = some (ts.any fun t => subCls c t)
  | [], _, _, rfl => rfl
  | t :: ts, _, h, rfl => by
    refine kitAny_cons (h t List.mem_cons_self) (fun e => ?_) fun e => ?_
    · rw [List.any_cons, e, Bool.false_or]
      exact kitAny_all (fun t ht => h t (List.mem_cons_of_mem _ ht)) rfl
    · rw [List.any_cons, e, Bool.true_or]
theorem vals_refs : ∀ {ts : List Str} {us : List Value}, Vals (ts.map fun t => V.ref (ca t)) us → us = ts.map fun t => Value.ref (ca t)
  | [], _, .nil => rfl
  | t :: ts, _, .cons r rs => by
    rw [vals_refs rs]
    exact congrArg (· :: _) r
theorem call_isZT {ts : List Str} (E : ErrK X.K ca X.mg) (hz : HotZ X ca zx) : CallR X (.builtin "isinstance") (rIsZT ca zx ts) := by
  intro pins s σ H xs us Q I r h
  obtain ⟨a, tp, d, c, f, as, rfl, hT, z, ar, ht, q⟩ := h
  obtain ⟨u1, u2, rfl, r1, r2⟩ := vals2 r
  cases (show u1 = Value.ref a from r1)
  cases (show u2 = Value.ref tp from r2)
  obtain ⟨hc, X0, o, pn, rfl, zc, hf⟩ := hz a d c z
  obtain ⟨od, J⟩ := err_at I zc hf ar
  obtain ⟨_, its, rv, ob, h1, h2, n, h3⟩ := (show ObjOk X0.prog X0.w H s.heap tp (.tup (ts.map fun t => V.ref (ca t))) from I.hok tp _ hT)
  have e3 := vals_refs rv
  obtain ⟨oc, od2, dt, sl⟩ := ob
  simp only at h2 h3
  subst h2 h3
  exact PySem.W.kia_tup (err_kit (X := X0) (E.exc c hc)) I.kIn J h1 (kitAny_all (fun t h => E.kit c hc t (ht t h)) e3) (fun z => nomatch z) fun tk => ⟨.bl (ts.any fun t => subCls c t), H, I.kept (t' := tk) fun _ _ z => z, rfl, q⟩
/-- e.f -/
def tFZ (zx : ZX) (i : Nat) (f : Str) : TE := fun σ H Q => ∃ (a dd : Addr) (c : Str) (v : V), σ[i]? = some (some (.ref a)) ∧ zx a (some dd) c ∧ H dd = some (.xd [(f, v)]) ∧ Q v H
theorem pe_fZ {i : Nat} {x f : Str} {p p2 : Pos} (E : ErrK X.K ca X.mg) (hz : HotZ X ca zx) (hf : f = "divisor" ∨ f = "name") (hi : PE X (.Name x p) (tVar i)) : PE X (.Attribute (.Name x p) f p2) (tFZ zx i f) := by
  refine ⟨fun pins s σ H Q I h => ?_⟩
  obtain ⟨a, dd, c, v, es, z, hd, q⟩ := h
  obtain ⟨hc, X0, o, pn, rfl, zc, hv⟩ := hz a _ c z
  have e := E.exc c hc
  have no : PySem.W.findIn X0.K (.ref (ca c)) f = some none := by
    rcases hf with rfl | rfl
    · exact (E.fd c hc).1
    · exact (E.fd c hc).2
  refine (pe_xf (X := X0) (a := a) (pn := pn) (T := ⟨e.hg, e.hk, e.hs, e.hd⟩) no zc hv hi).run pins s σ H Q I ?_
  exact ⟨_, es, rfl, rfl, dd, _, v, rfl, hd, by simp [List.lookup], q⟩
end
end Dv

namespace Dv
open PySem PySem.Spec PyProof.Rows L2
/-! ### count, index, insert; a range laid out -/
def rCntF (K : PySem.W.Frag) : V → List V → Hp → VK → Prop := fun x xs H Q => ∃ (a : Addr) (ys : List V) (y : V), x = .ref a ∧ xs = [y] ∧ SqL K H a ys ∧ flatV y = true ∧ ys.all flatV = true ∧ Q (.int (ys.countP fun z => eqV z y : Nat)) H
theorem count_eqU {x : V} : ∀ {xs : List V} {us : List Value}, Vals xs us → xs.all flatV = true → us.countP (eqU x) = xs.countP fun y => eqV y x
  | _, _, .nil, _ => rfl
  | y :: xs, u :: us, .cons r t, f => by
    rw [List.all_cons, Bool.and_eq_true] at f
    rw [List.countP_cons, List.countP_cons, eqU_of r f.1, count_eqU t f.2]
theorem mt_countF {X : Cx} : MtR X "list.count" (rCntF X.K) := by
  intro pins s σ H x xs v us Q I rx rxs h
  obtain ⟨a, ys, y, rfl, rfl, hs, fy, fys, q⟩ := h
  cases rx
  obtain ⟨u, rfl, ru⟩ := rxs.one
  obtain ⟨its, rv, ⟨⟨cls, dd, data, sls⟩, n, ho, hc, hdn, hdt⟩, hlen⟩ := I.list hs
  simp only at hc hdt
  subst hc hdt
  refine call_meets PySem.F.slot_list_count ⟨_, ho, rfl⟩ PySem.F.entry_list_count (PySem.F.args_list_count_2 _ _) (SeqAt.list_countAt a its.toArray n dd sls u (eqU y)) ⟨ho, fun w hw => mem_eqAt ru fy rv fys w (by simpa using hw), ?_⟩
  have ec : its.toArray.toList.countP (eqU y) = ys.countP fun z => eqV z y := count_eqU rv fys
  refine ⟨.int (ys.countP fun z => eqV z y : Nat), H, I.tok _, ⟨s.toks, ?_⟩, q⟩
  rw [ec]
def rMe (K : PySem.W.Frag) : Me → V → List V → Hp → VK → Prop
  | .count => rCntF K
  | .index => rIndex K
  | .split => fun x xs H Q => ∃ a b, x = .str a ∧ xs = [.str b] ∧ (b.length == 0) = false ∧ a.length + 2 ≤ sizeLine ∧ rNewStrs (Txt.split a b) H Q
  | .join => fun x xs H Q => ∃ a p, ∃ ys : List Str, x = .str a ∧ xs = [.ref p] ∧ (SqL K H p (ys.map V.str) ∨ SqT K H p (ys.map V.str)) ∧ (ys.map (·.length)).sum + ys.length * a.length ≤ 16777216 ∧ Q (.str (Txt.join a ys)) H
  | .find => fun x xs H Q => ∃ a b, x = .str a ∧ xs = [.str b] ∧ Q (.int (Txt.find a b)) H
def meTy : Me → String
  | .count => "list"
  | .index => "list"
  | .split => "str"
  | .join => "str"
  | .find => "str"
def meN : Me → Str
  | .count => "count"
  | .index => "index"
  | .split => "split"
  | .join => "join"
  | .find => "find"
section
variable {C : Cc} {W : WX} {O : Addr → Prop} {H Hb : Hp}
theorem repL_countV {P P' : Addr → Prop} {d : D} {v : V} (r : Rep C P' H d v) (hd : d.flat = true) : ∀ {ds : List D} {vs : List V}, RepL C P H ds vs → ds.all D.flat = true → (vs.countP fun z => eqV z v) = ds.countP fun z => D.eqb z d
  | [], vs, t, _ => by
    have : vs = [] := by have := t.1; simpa using this.symm
    subst this; rfl
  | x :: ds, [], t, _ => by have := t.1; simp at this
  | x :: ds, y :: vs, t, h => by
    rw [List.all_cons, Bool.and_eq_true] at h
    rw [List.countP_cons, List.countP_cons, repL_countV r hd t.tail h.2, rep_eqV t.head r h.1 hd]
theorem de_meth {m : Me} {ta : TE} {wa : WpE} {tas : TA} {was : En → (List R → Prop) → (Exn → Prop) → Prop} {n : Nat} (ha : DE C W ta wa) (hs : DA C W n tas was) :
    DE C W (tBM C.K (meTy m) (rMe C.K m) ta tas) (fun env Q X => wa env (fun x => meT m x.d = true ∧ was env (fun rs => meW m x rs Q) X) X) := by
  intro G env σ H Q Qx Qv R hx hq h
  refine ha G env σ H _ Qx _ R hx ?_ h
  rintro v H1 r s1 p1 ⟨ht, h1⟩
  refine ⟨?_, ?_⟩
  · cases hd : r.d with
    | lst ds =>
      obtain ⟨a, vs, rfl, h2, t⟩ := p1.lst hd
      have : meTy m = "list" := by cases m <;> first | rfl | (rw [hd] at ht; cases ht)
      exact .inl ⟨this, vs, .inl (.inl h2)⟩
    | str x =>
      have e := p1.str hd
      subst e
      show meTy m = "str"
      cases m <;> first | rfl | (rw [hd] at ht; cases ht)
    | _ => cases m <;> (rw [hd] at ht; cases ht)
  · refine hs G env σ H1 _ Qx _ (R.same s1) (hx.same s1) ?_ h1
    intro vs H2 rs s2 hl p2 h2
    have p1' := p1.same s2
    unfold meW at h2
    split at h2
    · rename_i ds y e
      obtain ⟨u, rfl, p3⟩ := paired1 p2
      obtain ⟨a, ws, rfl, h3, t⟩ := p1'.lst e
      obtain ⟨⟨f1, f2⟩, h2⟩ := h2
      refine ⟨a, ws, u, rfl, rfl, .inl (.inl h3), rep_flat p3.el f1, repL_flat t f2, ?_⟩
      rw [repL_countV p3.el f1 t f2]
      exact hq _ _ _ (s1.trans s2) repI h2
    · rename_i ds y e
      obtain ⟨u, rfl, p3⟩ := paired1 p2
      obtain ⟨a, ws, rfl, h3, t⟩ := p1'.lst e
      obtain ⟨⟨f1, f2⟩, h2⟩ := h2
      split at h2
      · rename_i j ej
        obtain ⟨hj, ej1, ej2⟩ := List.findIdx?_eq_some_iff_getElem.mp ej
        have gd : ds[j]? = some ds[j] := by simp [hj]
        obtain ⟨w, gw, rw1⟩ := t.get gd
        have fl : ∀ {i : Nat} {d : D}, ds[i]? = some d → d.flat = true := fun hi => List.all_eq_true.mp f2 _ (List.mem_of_getElem? hi)
        refine ⟨a, ws, u, j, w, rfl, rfl, .inl (.inl h3), rep_flat p3.el f1, repL_flat t f2, gw, ?_, fun i z hi hz => ?_, hq _ _ _ (s1.trans s2) repI h2⟩
        · rw [rep_eqV rw1 p3.el (fl gd) f1]
          exact ej1
        · obtain ⟨d, gd2, r2⟩ := t.getV hz
          rw [rep_eqV r2 p3.el (fl gd2) f1]
          have hi2 : i < ds.length := (List.getElem?_eq_some_iff.mp gd2).1
          have := ej2 i hi
          have e3 : ds[i] = d := by rw [List.getElem?_eq_getElem hi2] at gd2; exact Option.some.inj gd2
          rw [e3] at this
          simpa using this
      · exact h2.elim
    · rename_i a y e
      obtain ⟨u, rfl, p3⟩ := paired1 p2
      have ea := p1'.str e
      subst ea
      have fr2 := ((R.same s1).same s2).fr
      split at h2
      · rename_i b eb
        refine ⟨a, b, rfl, by rw [p3.str eb], h2.1.1, by rw [← line_eq]; exact h2.1.2, fun p hp => hq _ _ _ ((s1.trans s2).trans (same_upd hp)) ((newL (f := .fro) fr2 hp (strs_back _)).back (s1.trans s2)) h2.2⟩
      · exact h2.elim
    · rename_i a y e
      obtain ⟨u, rfl, p3⟩ := paired1 p2
      have ea := p1'.str e
      subst ea
      split at h2
      · rename_i b eb
        exact ⟨a, b, rfl, by rw [p3.str eb], hq _ _ _ (s1.trans s2) repI h2⟩
      · exact h2.elim
    · rename_i a y e
      obtain ⟨u, rfl, p3⟩ := paired1 p2
      have ea := p1'.str e
      subst ea
      split at h2
      · rename_i ds eb
        split at h2
        · rename_i ys ey
          obtain ⟨b, ws, rfl, h3, t⟩ := p3.lst eb
          have e3 := strs_vs t ey
          exact ⟨a, b, ys, rfl, rfl, .inl (by rw [← e3]; exact .inl (.inl h3)), h2.1, hq _ _ _ (s1.trans s2) repS h2.2⟩
        · exact h2.elim
      · exact h2.elim
    · exact h2.elim
theorem rg_rep {P : Addr → Prop} {m n : Int} : RepL C P H (rangeL m n) (rgV m n) := by
  refine ⟨by unfold rangeL rgV; simp, fun i d v e1 e2 => ?_⟩
  unfold rangeL at e1
  unfold rgV at e2
  rw [List.getElem?_map] at e1 e2
  cases q : (List.range (n - m).toNat)[i]? with
  | none => rw [q] at e1; cases e1
  | some z =>
    rw [q] at e1 e2
    cases e1
    cases e2
    exact .int _
theorem rg_ok {m n : Int} (a : ib m) (b : ib n) (c : n - m ≤ line) : RgOk m n := by
  unfold ib at a b
  unfold line at c
  exact ⟨a.1, a.2, b.1, b.2, by omega⟩
theorem metL_eq (ns : List Int) : ∀ i, i ≤ ns.length → firstMet (fun i => ns.getD i 0) i = metL (ns.take i)
  | 0, _ => rfl
  | i + 1, hi => by
    have hlt : i < ns.length := hi
    have e : ns.getD i 0 = ns[i] := by rw [List.getD_eq_getElem?_getD, List.getElem?_eq_getElem hlt] <;> rfl
    rw [firstMet_succ, metL_eq ns i (Nat.le_of_lt hlt), List.take_succ, List.getElem?_eq_getElem hlt]
    unfold step_dedup metL
    rw [e]
    show _ = List.foldl _ _ (ns.take i ++ [ns[i]])
    rw [List.foldl_append]
    rfl
def tLenSetG (K : PySem.W.Frag) (ta : TE) : TE := fun σ H Q => ta σ H fun x H1 => ∃ (l : Addr) (ns : List Int), x = V.ref l ∧ SqL K H1 l (ns.map V.int) ∧ (ns.length < 64 ∨ ns.Nodup ∧ ns.length ≤ 4000) ∧ Q (.int (metL ns).length) H1
theorem pe_lenSetG {X : Cx} {a : Expr} {ta : TE} {p p2 q pos : Pos} (hc : X.calm = true) (hg : Gl X "len") (hm : X.mg "len" = none) (hg2 : Gl X "set") (hm2 : X.mg "set" = none) (ha : PE X a ta)
    (na : starEach [a] X.env = (false, eval a X.env) :: starEach [] X.env := by rfl) : PE X (.Call (.Name "len" p) [.Call (.Name "set" p2) [a] [] q] [] pos) (tLenSetG X.K ta) := by
  refine ⟨fun pins s σ H Q I h => ?_⟩
  refine Call_ (ld_blt I hg hm PySem.boot_len ?_)
  refine PyProof.Rows.callWith_builtin1 (PyProof.Rows.args_cons ?_ rfl) rfl rfl
  refine Call_ (ld_blt I hg2 hm2 PyProof.Rows.boot_set ?_)
  refine PyProof.Rows.callWith_type1 (PyProof.Rows.args_cons (thn (ha.run pins s σ H _ I h) fun v s1 ⟨x, H1, I1, r1, q1⟩ => PyProof.Rows.args_nil ?_) na) na rfl
  obtain ⟨l, ns, rfl, hq, h1, q1⟩ := q1
  cases r1
  obtain ⟨its, r, pl, hz⟩ := I1.list hq
  have hl : its.toArray.size = ns.length := by rw [List.size_toArray, ← r.length, List.length_map]
  refine call_set_list (I1.ok.hd hc) pl.isList (ns := ns) (by simpa using r.ints) (by unfold scanBound; rcases h1 with h1 | h1 <;> omega) fun h' tk hS hk => ?_
  rw [hl, metL_eq ns ns.length (Nat.le_refl _), List.take_length] at hS
  refine PyProof.Rows.args_nil ?_
  obtain ⟨o, es, ep, t, ho, hex, hd, _, _, _, hf, hn⟩ := hS
  have I2 : Inv X pins σ H1 { s1 with heap := h', toks := tk } := I1.kept fun b o e => hk b o (Heap.lt_size e) e
  have h4000 : ns.length ≤ 4000 := by rcases h1 with h1 | h1 <;> omega
  have hl2 : ∀ (m : List Int) (acc : List Int), (m.foldl (fun acc x => if acc.any (· == x) then acc else acc ++ [x]) acc).length ≤ acc.length + m.length := by
    intro m
    induction m with
    | nil => intro acc; simp
    | cons z r ih =>
      intro acc
      rw [List.foldl_cons]
      by_cases hz : acc.any (· == z) = true
      · rw [if_pos hz]
        have := ih acc
        rw [List.length_cons]
        omega
      · rw [if_neg hz]
        have := ih (acc ++ [z])
        rw [List.length_append, List.length_singleton] at this
        rw [List.length_cons]
        omega
  have hl3 : (metL ns).length ≤ ns.length := by
    have := hl2 ns []
    rw [List.length_nil, Nat.zero_add] at this
    exact this
  refine call_len_set ho hex hd hf (by rw [hn] <;> omega) ⟨.int (metL ns).length, H1, I2.tok _, ⟨_, by rw [hn]⟩, q1⟩
theorem de_lset {ta : TE} {wa : WpE} (ha : DE C W ta wa) : DE C W (tLenSetG C.K ta) (fun env Q X => wa env (fun x => match x.d with
    | .lst ds => (match intsOf ds with | some ns => (ns.length < 64 ∨ ns.Nodup ∧ ns.length ≤ 4000) ∧ Q (.v .fro (.int (metL ns).length)) | none => False)
    | _ => False) X) := by
  intro G env σ H Q Qx Qv R hx hq h
  refine ha G env σ H _ Qx _ R hx ?_ h
  intro v1 H1 r1 s1 p1 h1
  split at h1
  · rename_i ds e
    split at h1
    · rename_i ns en
      obtain ⟨a, vs, rfl, h2, t⟩ := p1.lst e
      obtain rfl := ints_vs t en
      exact ⟨a, ns, rfl, .inl (.inl h2), h1.1, hq _ H1 _ s1 repI h1.2⟩
    · exact h1.elim
  · exact h1.elim
def rdRg (t : Bool) (te : L2.St → Hp → (Int → Int → Hp → Prop) → Prop) : TE := if t then tTupRg te else tLstRg te
theorem de_rgv {t : Bool} {ta : TE} {wa : WpE} (ha : DE C W ta wa) : DE C W (rdRg t (tRg1 ta)) (fun env Q X => wa env (fun x => match x.d with | .int n => (ib n ∧ n ≤ line) ∧ Q (rgR t 0 n) | _ => False) X) := by
  intro G env σ H Q Qx Qv R hx hq h
  unfold rdRg
  cases t with
  | true =>
    refine ha G env σ H _ Qx _ R hx ?_ h
    intro v H1 r s1 p q
    split at q
    · rename_i n e
      refine ⟨n, p.int e, rg_ok (by unfold ib; omega) q.1.1 (by omega), fun l hl => hq _ _ _ (s1.trans (same_upd hl)) ((newT (f := .fro) hl rg_rep).back s1) q.2⟩
    · exact q.elim
  | false =>
    refine ha G env σ H _ Qx _ R hx ?_ h
    intro v H1 r s1 p q
    split at q
    · rename_i n e
      refine ⟨n, p.int e, rg_ok (by unfold ib; omega) q.1.1 (by omega), fun l hl => hq _ _ _ (s1.trans (same_upd hl)) ((newL (f := .fro) (R.same s1).fr hl rg_rep).back s1) q.2⟩
    · exact q.elim
theorem de_rgv2 {t : Bool} {ta tb : TE} {wa wb : WpE} (ha : DE C W ta wa) (hb : DE C W tb wb) : DE C W (rdRg t (tRg2 ta tb)) (fun env Q X => wa env (fun x => wb env (fun y => match x.d, y.d with | .int m, .int n => (ib m ∧ ib n ∧ n - m ≤ line) ∧ Q (rgR t m n) | _, _ => False) X) X) := by
  intro G env σ H Q Qx Qv R hx hq h
  unfold rdRg
  cases t with
  | true =>
    refine ha G env σ H _ Qx _ R hx ?_ h
    intro v H1 r s1 p h
    refine hb G env σ H1 _ Qx _ (R.same s1) (hx.same s1) ?_ h
    intro v2 H2 r2 s2 p2 q
    split at q
    · rename_i m n e1 e2
      refine ⟨m, n, p.int e1, p2.int e2, rg_ok q.1.1 q.1.2.1 q.1.2.2, fun l hl => hq _ _ _ ((s1.trans s2).trans (same_upd hl)) ((newT (f := .fro) hl rg_rep).back (s1.trans s2)) q.2⟩
    · exact q.elim
  | false =>
    refine ha G env σ H _ Qx _ R hx ?_ h
    intro v H1 r s1 p h
    refine hb G env σ H1 _ Qx _ (R.same s1) (hx.same s1) ?_ h
    intro v2 H2 r2 s2 p2 q
    split at q
    · rename_i m n e1 e2
      refine ⟨m, n, p.int e1, p2.int e2, rg_ok q.1.1 q.1.2.1 q.1.2.2, fun l hl => hq _ _ _ ((s1.trans s2).trans (same_upd hl)) ((newL (f := .fro) (R.same (s1.trans s2)).fr hl rg_rep).back (s1.trans s2)) q.2⟩
    · exact q.elim
def rIns : V → List V → Hp → VK → Prop := fun x vs H Q => ∃ (l : Addr) (xs : List V) (i : Int) (y : V), x = .ref l ∧ vs = [.int i, y] ∧ H l = some (.lst xs) ∧ xs.length < sizeLine ∧ 0 ≤ i ∧ i < 2 ^ 63 ∧ Q .non (upd H l (.lst (xs.take i.toNat ++ [y] ++ xs.drop i.toNat)))
theorem ds_ins {i : Nat} {tn te : TE} {wn we : WpE} (hn : DE C W tn wn) (he : DE C W te we) : DS C W (tDrop (tBM C.K "list" rIns (tVar i) (tCons tn (tCons te tNil)))) (fun k env => ownL env i fun f ds => wn env (fun z => we env (fun r => elW r fun g d => (match z.d with
      | .int z => (0 ≤ z ∧ z < 2 ^ 63 ∧ ds.length < line) ∧ k.nx (env.set i (.o (f.inf g) (.lst (ds.take z.toNat ++ [d] ++ ds.drop z.toNat))))
      | _ => False)) fun x => k.ex x env) fun x => k.ex x env) := by
  intro G env σ H k D R c h
  obtain ⟨a, f, ds, us, e, ev, hf, h1, t, h⟩ := ownL_val R h
  have ha : Own env σ a := ⟨i, f, _, e, ev⟩
  refine ⟨_, ev, .inl ⟨rfl, us, .inl (.inl h1)⟩, ?_⟩
  refine hn G env σ H _ _ _ R (c.xok R) ?_ h
  intro v H1 r s1 p h
  refine he G env σ H1 _ _ _ (R.same s1) (c.xok (R.same s1)) ?_ h
  intro v2 H2 r2 s2 p2 q
  have s12 := s1.trans s2
  have R2 := R.same s12
  simp only [elW_] at q
  obtain ⟨hr, q⟩ := q
  split at q
  · rename_i z e2
    have ez := p.int e2
    subst ez
    refine ⟨_, us, z, v2, rfl, rfl, s12 _ _ h1, by rw [← t.1, ← line_eq]; exact q.1.2.2, q.1.1, q.1.2.1, c.nx _ _ _ ?_ q.2⟩
    have t2 : RepL C (fun b => Pf C (Own env σ) (f.inf r2.fl) b ∧ b ≠ a) H2 ds us := (t.same s12).imp fun b _ z => ⟨Pf.inf_l z.1, z.2⟩
    refine R2.updL e ev (s12 _ _ h1) (Fl.inf_ne hf hr) (((t2.take z.toNat).app (.cons ?_ .nil)).app (t2.drop z.toNat))
    exact p2.el.imp fun b _ z => ⟨Pf.inf_r z, notO_ne (G := G) hr z ha⟩
  · exact q.elim
end
end Dv

namespace Dv
open PySem PySem.Spec PyProof.Rows L2
/-! ### try: the state in a suite -/
section
variable {C : Cc} {W : WX} {H : Hp}
def Cc.hot (C : Cc) (Z : ZX) : Cc := { C with Z := Z }
theorem Rep.hot {Z : ZX} {P : Addr → Prop} {d : Dv.D} {v : V} (r : Rep C P H d v) : Rep (C.hot Z) P H d v := Rep.ctx (C := C) (C' := C.hot Z) rfl (fun _ _ z => z) r
theorem Rep.cold {Z : ZX} {P : Addr → Prop} {d : Dv.D} {v : V} (r : Rep (C.hot Z) P H d v) : Rep C P H d v := Rep.ctx (C := C.hot Z) (C' := C) rfl (fun _ _ z => z) r
theorem OwnR.hot {Z : ZX} {P : Addr → Prop} {a : Addr} {d : Dv.D} (r : OwnR C P H a d) : OwnR (C.hot Z) P H a d := by
  cases d with
  | lst ds => obtain ⟨vs, e, t1, t2⟩ := r; exact ⟨vs, e, t1, fun i d v e1 e2 => (t2 i d v e1 e2).hot⟩
  | dic kvs => obtain ⟨vs, e, t1, t2⟩ := r; exact ⟨vs, e, t1, fun i d v e1 e2 => (t2 i d v e1 e2).hot⟩
  | _ => exact r
theorem OwnR.cold {Z : ZX} {P : Addr → Prop} {a : Addr} {d : Dv.D} (r : OwnR (C.hot Z) P H a d) : OwnR C P H a d := by
  cases d with
  | lst ds => obtain ⟨vs, e, t1, t2⟩ := r; exact ⟨vs, e, t1, fun i d v e1 e2 => (t2 i d v e1 e2).cold⟩
  | dic kvs => obtain ⟨vs, e, t1, t2⟩ := r; exact ⟨vs, e, t1, fun i d v e1 e2 => (t2 i d v e1 e2).cold⟩
  | _ => exact r
/-- slots forgotten, errors named or forgotten -/
theorem RelO.sel {Z : ZX} {G : Hp} {env env' : En} {σ σ' : L2.St} (R : RelO C G env σ H) (hl : env'.length = σ'.length)
    (hs : ∀ (i : Nat) (s : Sl), env'[i]? = some s → s = .e ∨ (env[i]? = some s ∧ σ'[i]? = σ[i]? ∧ ∀ c f as, s ≠ .x c f as) ∨ ∃ c f as a d, s = .x c f as ∧ σ'[i]? = some (some (.ref a)) ∧ Z a d c ∧ ArgR H d f as) : RelO (C.hot Z) G env' σ' H := by
  have sub : ∀ {i : Nat} {f : Fl} {d : Dv.D} {a : Addr}, env'[i]? = some (.o f d) → σ'[i]? = some (some (.ref a)) → env[i]? = some (.o f d) ∧ σ[i]? = some (some (.ref a)) := fun {i f d a} e1 e2 => by
    rcases hs i _ e1 with h | ⟨h1, h2, _⟩ | ⟨_, _, _, _, _, h, _⟩
    · cases h
    · exact ⟨h1, h2 ▸ e2⟩
    · cases h
  have own : ∀ a, Own env' σ' a → Own env σ a := fun a ⟨i, f, d, e1, e2⟩ => ⟨i, f, d, sub e1 e2⟩
  refine ⟨hl, R.h0, R.g, R.scr, fun a z => R.own a (own a z), fun a z => ⟨(R.bus a z).1, (R.bus a z).2.1, fun y => (R.bus a z).2.2 (own a y)⟩, fun i j f d g e a e1 e2 e3 e4 => ?_, fun i s e => ?_⟩
  · exact R.inj i j f d g e a (sub e1 e3).1 (sub e2 e4).1 (sub e1 e3).2 (sub e2 e4).2
  · rcases hs i s e with rfl | ⟨h1, h2, h3⟩ | ⟨c, f, as, a, d, rfl, h2, h3, h4⟩
    · trivial
    · have q := R.sl i s h1
      cases s with
      | x xc xf xa => exact absurd rfl (h3 xc xf xa)
      | e => trivial
      | v f d =>
        obtain ⟨v, e', hf, r⟩ := q
        exact ⟨v, h2.trans e', hf, (r.imp fun a _ q => q.anti fun _ z => own a z).hot⟩
      | o f d =>
        obtain ⟨a, e', hf, r⟩ := q
        exact ⟨a, h2.trans e', hf, (r.imp fun b _ q => q.anti fun _ z => own b z).hot⟩
    · exact ⟨a, d, h2, h3, h4⟩
theorem noX_get {env : En} {i : Nat} {s : Sl} (e : (dropX env)[i]? = some s) : s = .e ∨ (env[i]? = some s ∧ ∀ c f as, s ≠ .x c f as) := by
  unfold dropX at e
  rw [List.getElem?_map] at e
  cases q : env[i]? with
  | none => rw [q] at e; cases e
  | some z =>
    rw [q] at e
    have e := Option.some.inj e
    subst e
    cases z with
    | x _ _ _ => exact .inl rfl
    | e => exact .inl rfl
    | v f d => exact .inr ⟨rfl, fun _ _ _ h => by cases h⟩
    | o f d => exact .inr ⟨rfl, fun _ _ _ h => by cases h⟩
/-- into a suite -/
theorem RelO.enter {Z : ZX} {G : Hp} {env : En} {σ : L2.St} (R : RelO C G env σ H) (hZ : ∀ a d c, ¬ C.Z a d c) : RelO (C.hot Z) G env σ H :=
  R.sel R.len fun i s e => .inr (.inl ⟨e, rfl, fun c f as h => by subst h; obtain ⟨a, d, _, z, _⟩ := R.sl i _ e; exact hZ _ _ _ z⟩)
theorem RelO.enterX {Z : ZX} {G : Hp} {env : En} {σ : L2.St} {j : Nat} {a : Addr} {d : Option Addr} {c f : Str} {as : List Dv.D} (R : RelO C G env σ H) (hZ : ∀ a d c, ¬ C.Z a d c) (hz : Z a d c) (r : ArgR H d f as) : RelO (C.hot Z) G (env.set j (.x c f as)) (σ.set j (some (.ref a))) H := by
  refine R.sel (by simp [R.len]) fun i s e => ?_
  rw [List.getElem?_set] at e
  by_cases hj : j = i
  · subst hj
    rw [if_pos rfl] at e
    split at e
    · rename_i hi
      cases e
      refine .inr (.inr ⟨c, f, as, a, d, rfl, ?_, hz, r⟩)
      rw [List.getElem?_set_self (by rw [← R.len]; exact hi)]
    · cases e
  · rw [if_neg hj] at e
    exact .inr (.inl ⟨e, by rw [List.getElem?_set_ne hj], fun c f as h => by subst h; obtain ⟨a, d, _, z, _⟩ := R.sl i _ e; exact hZ _ _ _ z⟩)
/-- out of a suite -/
theorem RelO.leave {Z : ZX} {G : Hp} {env : En} {σ : L2.St} (R : RelO (C.hot Z) G env σ H) : RelO C G (dropX env) σ H :=
  RelO.sel (C := C.hot Z) (Z := C.Z) R (by unfold dropX; rw [List.length_map]; exact R.len) fun i s e => by
    rcases noX_get e with h | ⟨h1, h2⟩
    · exact .inl h
    · exact .inr (.inl ⟨h1, rfl, h2⟩)
theorem RelO.leaveX {Z : ZX} {G : Hp} {env : En} {σ : L2.St} {j : Nat} (R : RelO (C.hot Z) G env σ H) : RelO C G ((dropX env).set j .e) (σ.set j none) H :=
  RelO.sel (C := C.hot Z) (Z := C.Z) R (by unfold dropX; rw [List.length_set, List.length_map, List.length_set]; exact R.len) fun i s e => by
    rw [List.getElem?_set] at e
    by_cases hj : j = i
    · subst hj
      rw [if_pos rfl] at e
      split at e
      · cases e; exact .inl rfl
      · cases e
    · rw [if_neg hj] at e
      rcases noX_get e with h | ⟨h1, h2⟩
      · exact .inl h
      · exact .inr (.inl ⟨h1, by rw [List.getElem?_set_ne hj], h2⟩)
theorem RepR.cold {Z : ZX} {O : Addr → Prop} {Hb : Hp} {r : R} {v : V} (h : RepR (C.hot Z) O Hb H r v) : RepR C O Hb H r v := by
  cases r with
  | v f d => exact Rep.cold h
  | n f d =>
    obtain ⟨a, e, h1, h2, h3⟩ := h
    exact ⟨a, e, h1, h2, OwnR.cold h3⟩
  | b f d =>
    obtain ⟨a, e, h1, h3⟩ := h
    exact ⟨a, e, h1, OwnR.cold h3⟩
/-- the suite's error -/
def zOf (ca : CaL) (a : Addr) (cls : Value) (d : Option Addr) : ZX := fun a' d' c' => a' = a ∧ d' = d ∧ c' ∈ ca.l ∧ cls = .ref (ca c')
def HsOk (C : Cc) : Hs → List Cl → Prop
  | .nil, [] => True
  | .cons c i b hs, k :: ks => (k.c = C.ca c ∧ c ∈ C.ca.l ∧ k.i = i ∧ ∀ a cls d, DS (C.hot (zOf C.ca a cls d)) W0 (k.t a cls d) (wpSs b)) ∧ HsOk C hs ks
  | _, _ => False
theorem wp_cls {G : Hp} {k : Ko} {D : Ends} (hZ : ∀ a d c, ¬ C.Z a d c) (E : ∀ c ∈ C.ca.l, ∀ t ∈ C.ca.l, PySem.W.exmOne C.K (.ref (C.ca c)) (.ref (C.ca t)) = some (subCls c t)) (cm : Cmp C W G k D) :
    ∀ {hs : Hs} {ks : List Cl}, HsOk C hs ks → ∀ {env : En} {σ : L2.St} {H : Hp} {x : Exn} {cls : Value} {d : Option Addr}, RelO C G env σ H → RepX C H x cls d → wpHs hs k x env → wCls C.K W D ks cls d σ H
  | .nil, [], _, env, σ, H, x, cls, d, R, rx, h => cm.ex env σ H x cls d R rx h
  | .nil, _ :: _, h, _, _, _, _, _, _, _, _, _ => h.elim
  | .cons _ _ _ _, [], h, _, _, _, _, _, _, _, _, _ => h.elim
  | .cons c i b hs, k1 :: ks, ⟨⟨hc, hl, hi, hb⟩, hr⟩, env, σ, H, x, cls, d, R, rx, h => by
    obtain ⟨⟨ec, hx⟩, ar⟩ := id rx
    obtain ⟨kc, ki, kt⟩ := k1
    dsimp only at hc hi hb
    subst hc hi
    refine ⟨subCls x.cls c, by rw [ec]; exact E _ hx _ hl, fun hb1 a na => ?_, fun hb1 => wp_cls hZ E cm hr R rx ?_⟩
    · simp only [wpHs_cons, hb1, if_true] at h
      have zx : zOf C.ca a cls d a d x.cls := ⟨rfl, rfl, hx, ec⟩
      cases ki with
      | none =>
        refine hb a cls d G env σ H { k with ex := fun _ _ => False, nx := fun e => k.nx (dropX e), bk := fun e => k.bk (dropX e), ct := fun e => k.ct (dropX e) } (Dv.behind none D) (R.enter hZ) ⟨fun e σ2 H2 R2 q => ?_, fun e σ2 H2 R2 q => ?_, fun e σ2 H2 R2 q => ?_, fun v H2 r s p q => ?_, fun e σ2 H2 x2 c2 d2 R2 rx2 q => q.elim⟩ h
        · exact cm.nx _ _ _ R2.leave q
        · exact cm.bk _ _ _ R2.leave q
        · exact cm.ct _ _ _ R2.leave q
        · exact cm.rt v H2 r s (RepR.cold p) q
      | some j =>
        refine hb a cls d G _ _ H { k with ex := fun _ _ => False, nx := fun e => k.nx ((dropX e).set j .e), bk := fun e => k.bk ((dropX e).set j .e), ct := fun e => k.ct ((dropX e).set j .e) } (Dv.behind (some j) D) (R.enterX (j := j) hZ zx ar) ⟨fun e σ2 H2 R2 q => ?_, fun e σ2 H2 R2 q => ?_, fun e σ2 H2 R2 q => ?_, fun v H2 r s p q => ?_, fun e σ2 H2 x2 c2 d2 R2 rx2 q => q.elim⟩ h
        · exact cm.nx _ _ _ R2.leaveX q
        · exact cm.bk _ _ _ R2.leaveX q
        · exact cm.ct _ _ _ R2.leaveX q
        · exact cm.rt v H2 r s (RepR.cold p) q
    · simp only [wpHs_cons, hb1, Bool.false_eq_true, if_false] at h
      exact h
theorem ds_try {tb : WX → TS} {b : Ss} {hs : Hs} {ks : List Cl} (hZ : ∀ a d c, ¬ C.Z a d c) (E : ∀ c ∈ C.ca.l, ∀ t ∈ C.ca.l, PySem.W.exmOne C.K (.ref (C.ca c)) (.ref (C.ca t)) = some (subCls c t)) (hb : ∀ W, DS C W (tb W) (wpSs b)) (hk : HsOk C hs ks) :
    DS C W (fun D σ H => tb (wCls C.K W D ks) D σ H) (fun k env => wpSs b { k with ex := wpHs hs k } env) := by
  intro G env σ H k D R cm h
  exact hb _ G env σ H { k with ex := wpHs hs k } D R ⟨cm.nx, cm.bk, cm.ct, cm.rt, fun e σ2 H2 x cls d R2 rx q => wp_cls hZ E cm hk R2 rx q⟩ h
/-- a context that takes what is wished -/
theorem takes_any {X : Cx} (W : WX) (hst : X.stack = X.env :: X.outer) (hf : X.env.frame = some X.env.locals) : ∃ xe : Value → Shared → Prop, Takes (X.tr [] xe) W ∧ PassesOwn (model X.prog X.w) X.A X.env xe := by
  refine ⟨fun e s1 => wpAny (model X.prog X.w) X.A (noteFrame e X.env) (fun _ s2 => wpAny (model X.prog X.w) X.A (setFlight e none) (fun _ _ => True) (fun _ _ => True) s2) (fun _ _ => True) s1, fun u s2 xx => ?_, PassesOwn.looking⟩
  obtain ⟨a, B, sI, pn2, σ2, H2, cls, d, rfl, J, nb, up, sky, na, os, ag, w⟩ := xx
  have hfr : X.A.frames = some (X.env :: X.outer) := by rw [← hst]; exact J.ok.frames
  have sk : Sky B (X.env :: X.outer) a (Zc cls d) X.env.locals s2.heap := by rw [← hst]; exact sky
  exact Sky.land Zc.steady hfr hf sk fun _ _ _ => trivial
/-- isinstance(e, ..) -/
theorem de_isx {zx : ZX} {i : Nat} {t : Str} {ca : CaL} (ht : t ∈ ca.l ∨ t = "ValueError") (hZ : ∀ a d c, C.Z a d c → zx a d c) : DE C W (tCB (rIsZ ca zx) (tCons (tVar i) (tCons (tC (clV ca t)) tNil))) (fun env Q _ => isxW env i [t] fun b => Q (.v .fro (.bl b))) := by
  intro G env σ H Q Qx Qv R hx hq h
  unfold isxW at h
  split at h
  · rename_i c f as e
    obtain ⟨a, d, ev, z, r⟩ := R.sl i _ e
    refine ⟨_, ev, a, d, c, t, f, as, rfl, hZ _ _ _ z, r, ht, hq _ _ (.v .fro _) (Same.refl H) repB ?_⟩
    simpa using h
  · exact h.elim
def tNms (ca : CaL) : List Str → TA
  | [] => tNil
  | t :: ts => tCons (tC (.ref (ca t))) (tNms ca ts)
theorem nms_run {ca : CaL} {σ : L2.St} {H : Hp} {Q : List V → Hp → Prop} : ∀ ts : List Str, Q (ts.map fun t => V.ref (ca t)) H → tNms ca ts σ H Q
  | [], h => h
  | t :: ts, h => nms_run (Q := fun vs H' => Q (V.ref (ca t) :: vs) H') ts h
theorem de_isxs {zx : ZX} {i : Nat} {ts : List Str} {ca : CaL} (ht : ∀ t ∈ ts, t ∈ ca.l) (hl : ts.length ≤ 64) (hZ : ∀ a d c, C.Z a d c → zx a d c) : DE C W (tCB (rIsZT ca zx ts) (tCons (tVar i) (tCons (tTup (tNms ca ts)) tNil))) (fun env Q _ => isxW env i ts fun b => Q (.v .fro (.bl b))) := by
  intro G env σ H Q Qx Qv R hx hq h
  unfold isxW at h
  split at h
  · rename_i c f as e
    obtain ⟨a, d, ev, z, r⟩ := R.sl i _ e
    refine ⟨_, ev, nms_run ts ⟨?_, fun p hp => ?_⟩⟩
    · rw [List.length_map, ← line_eq]; unfold line; omega
    · have r2 : ArgR (upd H p (.tup (ts.map fun t => V.ref (ca t)))) d f as := r.keep (P := fun _ => False) (Keep.same (same_upd hp))
      exact ⟨a, p, d, c, f, as, rfl, upd_same, hZ _ _ _ z, r2, ht, hq _ _ _ (same_upd hp) repB h⟩
  · exact h.elim
/-- e.f -/
theorem de_fld {zx : ZX} {i : Nat} {f : Str} (hZ : ∀ a d c, C.Z a d c → zx a d c) : DE C W (tFZ zx i f) (fun env Q _ => fldW env i f Q) := by
  intro G env σ H Q Qx Qv R hx hq h
  unfold fldW at h
  split at h
  · rename_i c g z e
    obtain ⟨a, d, ev, zz, dd, v, rfl, hd, sc⟩ := R.sl i _ e
    split at h
    · rename_i ef
      subst ef
      refine ⟨a, dd, c, v, ev, hZ _ _ _ zz, hd, hq v H _ (Same.refl H) ?_ h⟩
      cases z with
      | int i => cases sc; exact repI
      | str x => cases sc; exact repS
      | _ => cases sc
    · exact h.elim
  · exact h.elim
end
end Dv

namespace Dv
open PySem PySem.Spec PyProof.Rows L2
/-! ### errors with a field of their own: C(e), __init__ keeps e -/
def spI (K : PySem.W.Frag) (f : Str) : Sp := fun vs H Q _ => ∃ (a C : Addr) (y : V), vs = [.ref a, y] ∧ OexC K C ∧ PySem.W.findIn K (.ref C) f = some none ∧ H a = some (exo a C none) ∧
  ∀ dx, H dx = none → dx ≠ a → Q .non (upd (upd H dx (exd dx [(f, y)])) a (exo a C (some dx)))
/-- what is known of the class x with the field f -/
def ExI (P : Program) (w : World) (K : PySem.W.Frag) (mg : Str → Option Value) (base : Heap) (ca : CaL) (x f : Str) : Prop :=
  ∃ (fI : Addr) (fd : FuncData) (ps : List Str), OexC K (ca x) ∧ PySem.W.findIn K (.ref (ca x)) "__init__" = some (some (.ref fI)) ∧ PySem.W.typeIn K (.ref fI) = some (.type "function") ∧
    FnOk P w K mg base (L2.CX P w) 1 fI fd ps (spI K f) ∧ Binds K fd ps [] ∧ mg x = some (.ref (ca x)) ∧ PySem.W.findIn K (.ref (ca x)) f = some none
end Dv

namespace Dv
open PySem PySem.Spec PyProof.Rows L2
section
variable {C : Cc} {W : WX} {O : Addr → Prop} {H Hb : Hp}
/-! ### a written dict of texts and whole numbers -/
def dcTrs (kvs : KvL) : List (TE × TE) := kvs.map fun kv => (tC (.str kv.1), tC (.int kv.2))
def dcK (kvs : KvL) : List (L2.Key × V) := kvs.map fun kv => (.inr kv.1, .int kv.2)
theorem tPairs_dc : ∀ (kvs : KvL) (σ : L2.St) (H : Hp) (Q : List (V × V) → Hp → Prop), Q (kvs.map fun kv => (V.str kv.1, V.int kv.2)) H → tPairs (dcTrs kvs) σ H Q
  | [], _, _, _, h => h
  | kv :: r, σ, H, Q, h => tPairs_dc r σ H (fun ps H3 => Q ((V.str kv.1, V.int kv.2) :: ps) H3) h
theorem putK_new {kvs : List (L2.Key × V)} {k : L2.Key} {v : V} (h : k ∉ kvs.map (·.1)) : putK kvs k v = kvs ++ [(k, v)] := by
  unfold putK
  have : (kvs.any fun kv => decide (kv.1 = k)) = false := by
    rw [List.any_eq_false]
    intro x hx
    simp only [decide_eq_true_eq]
    intro e
    exact h (e ▸ List.mem_map_of_mem hx)
  rw [this]
  simp
theorem mergeK_app : ∀ (more kvs : List (L2.Key × V)), ((kvs ++ more).map (·.1)).Nodup → mergeK kvs more = kvs ++ more
  | [], kvs, _ => by simp [mergeK]
  | p :: r, kvs, h => by
    have h1 : p.1 ∉ kvs.map (·.1) := by
      rw [List.map_append, List.nodup_append] at h
      intro q
      exact h.2.2 _ q p.1 (by simp) rfl
    have h2 := mergeK_app r (kvs ++ [p]) (by rw [List.append_assoc]; exact h)
    rw [List.append_assoc] at h2
    rw [show kvs ++ p :: r = kvs ++ ([p] ++ r) from rfl, ← h2]
    show mergeK (putK kvs p.1 p.2) r = _
    rw [putK_new h1]
theorem dc_rep {P : Addr → Prop} (kvs : KvL) : RepK C P H (kvs.map fun kv => (Sum.inr kv.1, D.int kv.2)) (dcK kvs) := by
  refine ⟨by unfold dcK; rw [List.map_map, List.map_map]; rfl, fun i d v e1 e2 => ?_⟩
  unfold dcK at e2
  rw [List.map_map, List.getElem?_map] at e1 e2
  cases q : kvs[i]? with
  | none => rw [q] at e1; cases e1
  | some z =>
    rw [q] at e1 e2
    cases e1
    cases e2
    exact .int _
theorem de_dicC {kvs : KvL} : DE C W (tDisp (dcTrs kvs)) (fun _ Q _ => ((kvs.map (·.1)).Nodup ∧ kvs.length ≤ 15) ∧ Q (.n .fro (.dic (kvs.map fun kv => (.inr kv.1, .int kv.2))))) := by
  intro G env σ H Q Qx Qv R hx hq h
  intro p hp
  refine tPairs_dc kvs σ _ _ ⟨upd_same, dcK kvs, by unfold dcK; rw [List.map_map]; rfl, by unfold dcK; rw [List.length_map]; exact h.1.2, ?_⟩
  have em : mergeK [] (dcK kvs) = dcK kvs := by
    rw [mergeK_app _ [] ?_, List.nil_append]
    rw [List.nil_append]
    unfold dcK
    rw [List.map_map]
    have e : (kvs.map ((fun x : L2.Key × V => x.1) ∘ fun kv : Str × Int => ((Sum.inr kv.1 : L2.Key), V.int kv.2))) = (kvs.map (·.1)).map (Sum.inr : Str → L2.Key) := by rw [List.map_map]; rfl
    rw [e]
    exact List.Pairwise.map _ (fun a b hab q => hab (Sum.inr.inj q)) h.1.1
  rw [em, upd_upd]
  refine hq _ _ _ (same_upd hp) ?_ h.2
  have fr := R.fr p hp
  exact ⟨p, rfl, ⟨hp, fr.1⟩, fr.2, dcK kvs, upd_same, dc_rep kvs⟩
/-! ### x[k] += e, x a dict -/
theorem ds_augIx {i : Nat} {te tn : TE} {we wn : WpE} (hn : DE C W tn wn) (he : DE C W te we) : DS C W (sDAug (tVar i) tn te rAdd) (fun k env => ownD env i fun f d0 => wn env (fun j => (match d0, keyOf j.d with
      | .dic kvs, some key => (match dget kvs key with
        | some (.int a) => we env (fun y => match y.d with
          | .int b => kvs.length < line ∧ k.nx (env.set i (.o f (.dic (dput kvs key (.int (a + b))))))
          | _ => False) fun x => k.ex x env
        | _ => False)
      | _, _ => False)) fun x => k.ex x env) := by
  intro G env σ H k D R c h
  have h : ownD env i _ := h
  unfold ownD at h
  split at h
  · rename_i f d0 e
    obtain ⟨a, ev, hf, r0⟩ := R.sl i _ e
    refine ⟨_, ev, ?_⟩
    refine hn G env σ H _ _ _ R (c.xok R) ?_ h
    intro u H1 j s1 pj q
    split at q
    · rename_i kvs key ek
      split at q
      · rename_i ai eg
        obtain ⟨vs, h1, t⟩ := r0
        have t1 := t.keep (Keep.same s1)
        have h11 := s1 _ _ h1
        obtain ⟨v, ev2, rv⟩ := (repK_get (k := key) t1).1 _ eg
        cases rv
        refine ⟨a, .int ai, rfl, .inl ⟨vs, key, .inl h11, rep_key pj.el ek, ev2.symm⟩, ?_⟩
        refine he G env σ H1 _ _ _ (R.same s1) (c.xok (R.same s1)) ?_ q
        intro w H2 y s2 py q
        split at q
        · rename_i b eb
          have s12 := s1.trans s2
          have R2 := R.same s12
          have h2 := s2 _ _ h11
          have t2 : RepK C (fun b => Pf C (Own env σ) f b ∧ b ≠ a) H2 kvs vs := t1.keep (Keep.same s2)
          have hlen : kvs.length = vs.length := by have := congrArg List.length t.1; simpa using this
          refine ⟨ai, b, rfl, py.int eb, _, .inl ⟨vs, key, h2, rep_key (pj.same s2).el ek, by rw [← hlen, ← line_eq]; exact q.1, rfl⟩, c.nx _ _ _ ?_ q.2⟩
          refine R2.updO e ev hf ⟨_, upd_same, ?_⟩
          exact (repK_put (.int (ai + b)) t2).keep (Keep.upd h2 (.inr ⟨_, rfl⟩) fun z => z.2 rfl)
        · exact q.elim
      · exact q.elim
    · exact q.elim
  · exact h.elim
end
/-! ### what the top's names stand for: written tuples -/
mutual
def litB (K : PySem.W.Frag) : D → Value → Bool
  | .int i, .int j _ => decide (i = j)
  | .str x, .str y _ => decide (x = y)
  | .tup ds, .ref a => (match K.lookup a with
    | some o => (match o.cls with | .type t => decide (t = "tuple") | _ => false) && (match o.data with | .seq its _ => decide (its.size ≤ 1000) && litBL K ds its.toList | _ => false)
    | none => false)
  | _, _ => false
def litBL (K : PySem.W.Frag) : List D → List Value → Bool
  | [], [] => true
  | d :: ds, u :: us => litB K d u && litBL K ds us
  | _, _ => false
end
mutual
theorem litB_ok {C : Cc} {P : Addr → Prop} {H : Hp} {K : PySem.W.Frag} (hK : C.K = K) : ∀ (d : D) (u : Value), litB K d u = true → ∃ v, RelV v u ∧ Rep C P H d v ∧ ∀ a, u = .ref a → v = .ref a
  | .int i, u, h => by
    cases u with
    | int j t =>
      simp only [litB, decide_eq_true_eq] at h
      subst h
      exact ⟨.int i, ⟨t, rfl⟩, .int i, fun a e => by cases e⟩
    | _ => simp [litB] at h
  | .str i, u, h => by
    cases u with
    | str j t =>
      simp only [litB, decide_eq_true_eq] at h
      subst h
      exact ⟨.str i, ⟨t, rfl⟩, .str i, fun a e => by cases e⟩
    | _ => simp [litB] at h
  | .tup ds, u, h => by
    cases u with
    | ref a =>
      unfold litB at h
      split at h
      · rename_i o ho
        rw [Bool.and_eq_true] at h
        obtain ⟨h1, h2⟩ := h
        split at h1
        · rename_i t et
          have e1 : o.cls = .type "tuple" := by rw [et]; simp only [decide_eq_true_eq] at h1; rw [h1]
          split at h2
          · rename_i its n ed
            rw [Bool.and_eq_true, decide_eq_true_eq] at h2
            obtain ⟨h2, h3⟩ := h2
            obtain ⟨vs, r, t⟩ := litBL_ok (P := P) (H := H) hK ds its.toList h3
            refine ⟨.ref a, rfl, .tup (.inr ⟨o, its, n, by rw [hK]; exact ho, e1, ed, by rw [sizeLine_eq]; omega, r⟩) t.1 t.2, fun b e => by cases e; rfl⟩
          · cases h2
        · cases h1
      · cases h
    | _ => simp [litB] at h
  | .non, u, h => by cases u <;> simp [litB] at h
  | .bl _, u, h => by cases u <;> simp [litB] at h
  | .lst _, u, h => by cases u <;> simp [litB] at h
  | .dic _, u, h => by cases u <;> simp [litB] at h
  | .scr _, u, h => by cases u <;> simp [litB] at h
  | .ty _, u, h => by cases u <;> simp [litB] at h
theorem litBL_ok {C : Cc} {P : Addr → Prop} {H : Hp} {K : PySem.W.Frag} (hK : C.K = K) : ∀ (ds : List D) (us : List Value), litBL K ds us = true → ∃ vs, Vals vs us ∧ RepL C P H ds vs
  | [], [], _ => ⟨[], .nil, .nil⟩
  | [], _ :: _, h => by simp [litBL] at h
  | _ :: _, [], h => by simp [litBL] at h
  | d :: ds, u :: us, h => by
    simp only [litBL, Bool.and_eq_true] at h
    obtain ⟨v, r, t, _⟩ := litB_ok (P := P) (H := H) hK d u h.1
    obtain ⟨vs, rs, ts⟩ := litBL_ok (P := P) (H := H) hK ds us h.2
    exact ⟨v :: vs, .cons r rs, .cons t ts⟩
end
end Dv

namespace Dv
open PySem PySem.Spec PyProof.Rows L2

/-! ### readings -/
def gV (K : PySem.W.Frag) (x : Str) : D → V
  | .int i => .int i
  | .str x => .str x
  | .bl b => .bl b
  | .tup _ => .ref (He.ga K x)
  | _ => .non
def Es.len : Es → Nat
  | .nil => 0
  | .cons _ es => es.len + 1
def biN : Bi → String
  | .abs => "abs" | .len => "len" | .max => "max" | .min => "min" | .sum => "sum" | .list => "list" | .tuple => "tuple" | .sorted => "sorted" | .int => "int" | .all => "all" | .any => "any" | .divmod => "divmod" | .lenset => "set" | .str => "str"
section
variable (K : PySem.W.Frag) (ca : CaL) (zx : ZX)
mutual
def rdE : WX → E → TE
  | _, .var i => tVar i
  | _, .int i => tC (.int i)
  | _, .bl b => tC (.bl b)
  | _, .non => tC .non
  | _, .str s => tC (.str s)
  | _, .glob x d => tC (gV K x d)
  | W, .bin op a b => tOp (rB K op) (rdE W a) (rdE W b)
  | W, .neg a => tUn (rU fun i => .int (-i)) (rdE W a)
  | W, .notE a => tNotT K (rdE W a)
  | W, .andE es => rdAE W es
  | W, .orE es => rdOE W es
  | W, .cmp op a b => tOp (rCm K op) (rdE W a) (rdE W b)
  | W, .chain o p a b c => tChain (rCm K o) (rCm K p) (rdE W a) (rdE W b) (rdE W c)
  | W, .ite c a b => tIf (rdT W c) (rdE W a) (rdE W b)
  | W, .tup es => tTup (rdEs W es)
  | W, .lst es => tLst (rdEs W es)
  | _, .dic0 => tDNewK
  | _, .dicC kvs => tDisp (dcTrs kvs)
  | W, .idx a i => tOp (rIxD K) (rdE W a) (rdE W i)
  | W, .sli a lo hi => tSl (rSl K) (rdE W a) (rdEo W lo) (rdEo W hi)
  | W, .revs a => tRevL K (rdE W a)
  | W, .call _ sp es => tCallS (spOf K ca es.len sp) (WE W) (rdEs W es)
  | W, .bi f es => tCB (rBi K f) (rdEs W es)
  | W, .isi a t => tCB (rIsi K) (tCons (rdE W a) (tCons (tC (.ty t)) tNil))
  | W, .comp t it c e => tLc (rdIt W it) (rdTg K t) (rdC c) (rdE W0 e) (tgS t)
  | _, .isx i c => tCB (rIsZ ca zx) (tCons (tVar i) (tCons (tC (clV ca c)) tNil))
  | _, .isxs i cs => tCB (rIsZT ca zx cs) (tCons (tVar i) (tCons (tTup (tNms ca cs)) tNil))
  | _, .fld i f => tFZ zx i f
  | W, .meth m a es => tBM K (meTy m) (rMe K m) (rdE W a) (rdEs W es)
  | W, .lset a => tLenSetG K (rdE W a)
  | W, .rgv t a => rdRg t (tRg1 (rdE W a))
  | W, .rgv2 t a b => rdRg t (tRg2 (rdE W a) (rdE W b))
def rdT : WX → E → TT
  | W, .notE a => tNot (rdT W a)
  | W, .andE es => rdAT W es
  | W, .orE es => rdOT W es
  | W, .cmp op a b => tTest (tOp (rCm K op) (rdE W a) (rdE W b))
  | W, .chain o p a b c => tB (tChain (rCm K o) (rCm K p) (rdE W a) (rdE W b) (rdE W c))
  | _, .var i => fun σ H Q => tVar i σ H fun x H' => ∃ k, TruV K x H' k ∧ Q k H'
  | _, .bl b => fun σ H Q => tC (.bl b) σ H fun x H' => ∃ k, TruV K x H' k ∧ Q k H'
  | W, .call _ sp es => fun σ H Q => tCallS (spOf K ca es.len sp) (WE W) (rdEs W es) σ H fun x H' => ∃ k, TruV K x H' k ∧ Q k H'
  | W, .bi f es => fun σ H Q => tCB (rBi K f) (rdEs W es) σ H fun x H' => ∃ k, TruV K x H' k ∧ Q k H'
  | W, .isi a t => fun σ H Q => tCB (rIsi K) (tCons (rdE W a) (tCons (tC (.ty t)) tNil)) σ H fun x H' => ∃ k, TruV K x H' k ∧ Q k H'
  | W, .idx a i => fun σ H Q => tOp (rIxD K) (rdE W a) (rdE W i) σ H fun x H' => ∃ k, TruV K x H' k ∧ Q k H'
  | _, .isx i c => fun σ H Q => tCB (rIsZ ca zx) (tCons (tVar i) (tCons (tC (clV ca c)) tNil)) σ H fun x H' => ∃ k, TruV K x H' k ∧ Q k H'
  | _, .isxs i cs => fun σ H Q => tCB (rIsZT ca zx cs) (tCons (tVar i) (tCons (tTup (tNms ca cs)) tNil)) σ H fun x H' => ∃ k, TruV K x H' k ∧ Q k H'
  | _, _ => fun _ _ _ => False
def rdAE : WX → Es → TE
  | _, .nil => fun _ _ _ => False
  | W, .cons e es => (match es with
    | .nil => rdE W e
    | .cons _ _ => tAndV (rdE W e) (rdAE W es))
def rdOE : WX → Es → TE
  | _, .nil => fun _ _ _ => False
  | W, .cons e es => (match es with
    | .nil => rdE W e
    | .cons _ _ => tOrV (rdE W e) (rdOE W es))
def rdAT : WX → Es → TT
  | _, .nil => fun _ _ _ => False
  | W, .cons e es => (match es with
    | .nil => rdT W e
    | .cons _ _ => tAnd (rdT W e) (rdAT W es))
def rdOT : WX → Es → TT
  | _, .nil => fun _ _ _ => False
  | W, .cons e es => (match es with
    | .nil => rdT W e
    | .cons _ _ => tOr (rdT W e) (rdOT W es))
def rdEs : WX → Es → TA
  | _, .nil => tNil
  | W, .cons e es => tCons (rdE W e) (rdEs W es)
def rdEo : WX → Eo → TO
  | _, .none => tNoPart
  | W, .some e => tPart (rdE W e)
def rdC : Eo → TT
  | .none => tYes
  | .some e => rdT W0 e
def rdIt : WX → It → TI
  | W, .seq e => iSeq K (rdE W e)
  | W, .range1 a => iRng1 (tCons (rdE W a) tNil)
  | W, .range2 a b => iRng2 (tCons (rdE W a) (tCons (rdE W b) tNil))
  | W, .rangeW a b => iRngW (tCons (rdE W a) (tCons (rdE W b) tNil))
  | W, .rev a => iRev K (tCons (rdE W a) tNil)
  | W, .zip a b => RZ.iZipA K (tCons (rdE W a) (tCons (rdE W b) tNil))
  | _, _ => fun _ _ _ => False
end
end

/-! ### what the text must be -/
/-- the names of a def's slots; whether an error is in hand -/
structure Nm where
  l : List Str
  hot : Bool
def nmB (N : Nm) (i : Nat) (x : Str) : Bool := decide (N.l[i]? = some x) && (!(x == ("__debug__" : Str)) && !(x == ("__classdict__" : Str)))
def visB (sc : Scope) (x : Str) : Bool := match sc.names.lookup x with
  | some .local => true
  | some .cell => true
  | some .free => true
  | _ => false
def locB (sc : Scope) (x : Str) : Bool := match sc.names.lookup x with
  | some .local => true
  | some .cell => true
  | _ => false
def lclB (sc : Scope) (x : Str) : Bool := match sc.names.lookup x with
  | some .local => true
  | _ => false
def glB (sc : Scope) (x : Str) : Bool := (match sc.names.lookup x with
  | some .globalImplicit => true
  | _ => false) && (!(x == ("__debug__" : Str)) && !(x == ("__name__" : Str)))
def opB (o : Bop) (p : Operator) : Bool := match o, p with
  | .add, .Add => true
  | .sub, .Sub => true
  | .mul, .Mult => true
  | .fdiv, .FloorDiv => true
  | .mod, .Mod => true
  | .pow, .Pow => true
  | _, _ => false
def cmB (o : Cop) (p : CmpOp) : Bool := match o, p with
  | .eq, .Eq => true
  | .ne, .NotEq => true
  | .lt, .Lt => true
  | .le, .LtE => true
  | .gt, .Gt => true
  | .ge, .GtE => true
  | .isin, .In => true
  | .notin, .NotIn => true
  | .is, .Is => true
  | .isnt, .IsNot => true
  | _, _ => false
def noSet : Expr → Bool
  | .Set _ _ _ => false
  | _ => true
def noSl : Expr → Bool
  | .Slice _ _ _ _ => false
  | _ => true
def lcB (b : Bool) (sc : Scope) (x : Str) : Bool := lclB sc x || (b && locB sc x)
def tgB (b : Bool) (sc : Scope) (N : Nm) : Tg → Expr → Bool
  | .nm i, .Name x _ => nmB N i x && lcB b sc x
  | .t2 i j, .Tuple [.Name x _, .Name y _] _ _ => (nmB N i x && lcB b sc x) && (nmB N j y && lcB b sc y)
  | .t3 i j k, .Tuple [.Name x _, .Name y _, .Name z _] _ _ => (nmB N i x && lcB b sc x) && ((nmB N j y && lcB b sc y) && (nmB N k z && lcB b sc z))
  | .t4 i j k l, .Tuple [.Name x _, .Name y _, .Name z _, .Name u _] _ _ => (nmB N i x && lcB b sc x) && ((nmB N j y && lcB b sc y) && ((nmB N k z && lcB b sc z) && (nmB N l u && lcB b sc u)))
  | .tt i j k l, .Tuple [.Tuple [.Name x _, .Name y _] _ _, .Tuple [.Name z _, .Name u _] _ _] _ _ => (nmB N i x && lcB b sc x) && ((nmB N j y && lcB b sc y) && ((nmB N k z && lcB b sc z) && (nmB N l u && lcB b sc u)))
  | _, _ => false
/-- a comprehension's own names with their slots -/
def tgO : Tg → Expr → List (Str × Nat)
  | .nm i, .Name x _ => [(x, i)]
  | .t2 i j, .Tuple [.Name x _, .Name y _] _ _ => [(x, i), (y, j)]
  | .t3 i j k, .Tuple [.Name x _, .Name y _, .Name z _] _ _ => [(x, i), (y, j), (z, k)]
  | _, _ => []
def tyB (t : String) : Bool := decide (t = "int") || (decide (t = "bool") || (decide (t = "list") || (decide (t = "tuple") || (decide (t = "str") || decide (t = "dict")))))
theorem ty_of {t : String} (h : tyB t = true) : t = "int" ∨ t = "bool" ∨ t = "list" ∨ t = "tuple" ∨ t = "str" ∨ t = "dict" := by
  unfold tyB at h
  simpa using h
def biOk : Bi → Bool
  | .lenset => false
  | _ => true
def chkDc : KvL → List (Option Expr) → List Expr → Bool
  | [], [], [] => true
  | (k, i) :: r, some (.Constant (.str j) _ _) :: ks, .Constant (.int n) _ _ :: vs => (decide (k = j) && decide (i = n)) && chkDc r ks vs
  | _, _, _ => false
section
/-- names of error classes -/
def nmsB (sc : Scope) : List Str → List Expr → Bool
  | [], [] => true
  | t :: ts, .Name x _ :: es => (decide (t = x) && glB sc x) && nmsB sc ts es
  | _, _ => false
def rgF (t : Bool) : Str := if t then "tuple" else "list"
/-- a receiver whose reading is plain -/
def rcvB : Expr → Bool
  | .Name _ _ => true
  | .Constant _ _ _ => true
  | .List _ _ => true
  | _ => false
def bmB (p q : Pos) : Bool := p.endLine == q.line
variable (N : Nm)
mutual
def chkE (sc : Scope) : E → Expr → Bool
  | .var i, .Name x _ => nmB N i x && visB sc x
  | .int i, .Constant (.int j) _ _ => decide (i = j)
  | .bl i, .Constant (.bool j) _ _ => decide (i = j)
  | .non, .Constant .none _ _ => true
  | .str i, .Constant (.str j) _ _ => decide (i = j)
  | .glob x _, .Name y _ => decide (x = y) && glB sc x
  | .bin op a b, .BinOp x o y _ => opB op o && (chkE sc a x && chkE sc b y)
  | .neg a, .UnaryOp .USub x _ => chkE sc a x
  | .notE a, .UnaryOp .Not x _ => chkE sc a x
  | .andE es, .BoolOp .And xs _ => chkEs sc es xs
  | .orE es, .BoolOp .Or xs _ => chkEs sc es xs
  | .cmp op a b, .Compare x [o] [y] _ => (cmB op o && noSet y) && (chkE sc a x && chkE sc b y)
  | .chain op oq a b c, .Compare x [o, p] [y, z] _ => (cmB op o && cmB oq p) && ((noSet y && noSet z) && (chkE sc a x && (chkE sc b y && chkE sc c z)))
  | .ite c a b, .IfExp z x y _ => chkE sc c z && (chkE sc a x && chkE sc b y)
  | .tup es, .Tuple xs _ _ => chkEs sc es xs
  | .lst es, .List xs _ => chkEs sc es xs
  | .dic0, .Dict [] [] _ => true
  | .dicC kvs, .Dict ks vs _ => (!kvs.isEmpty && decide (kvs.length ≤ 15)) && chkDc kvs ks vs
  | .idx a i, .Subscript x y _ => noSl y && (chkE sc a x && chkE sc i y)
  | .sli a lo hi, .Subscript x (.Slice l h none _) _ => chkE sc a x && (chkEo sc lo l && chkEo sc hi h)
  | .revs a, .Subscript x (.Slice none none (some (.UnaryOp .USub (.Constant (.int 1) _ _) _)) _) _ => chkE sc a x
  | .call f _ es, .Call (.Name x _) xs [] _ => !N.hot && (decide (f = x) && glB sc x) && (!xs.isEmpty && chkEs sc es xs)
  | .bi f es, .Call (.Name x _) xs [] _ => !N.hot && (decide ((biN f : Str) = x) && (glB sc x && biOk f)) && (!xs.isEmpty && chkEs sc es xs)
  | .isi a t, .Call (.Name x _) [y, .Name z _] [] _ => (decide (x = ("isinstance" : Str)) && glB sc x) && ((decide ((t : Str) = z) && (glB sc z && tyB t)) && chkE sc a y)
  | .comp t it c e, .ListComp x [⟨tg, itx, ifs, as⟩] scope _ => !N.hot && ((decide (as = 0) && noSet itx) && (blkC N.l sc scope (tgO t tg) && decide ((tgO t tg).map (·.2) = tgS t))) &&
      (chkIt sc it tg itx && (tgB false (relS scope sc) N t tg && (chkC (relS scope sc) c ifs && chkE (relS scope sc) e x)))
  | .isx i c, .Call (.Name x _) [.Name y _, .Name z _] [] _ => (decide (x = ("isinstance" : Str)) && glB sc x) && ((nmB N i y && visB sc y) && (decide (c = z) && glB sc z))
  | .isxs i cs, .Call (.Name x _) [.Name y _, .Tuple zs _ _] [] _ => (decide (x = ("isinstance" : Str)) && glB sc x) && ((nmB N i y && visB sc y) && (decide (cs.length ≤ 64) && nmsB sc cs zs))
  | .fld i f, .Attribute (.Name y _) g _ => (decide (f = g) && (decide (f = ("divisor" : Str)) || decide (f = ("name" : Str)))) && (nmB N i y && visB sc y)
  | .meth m a (.cons b .nil), .Call (.Attribute o g ap) [y] [] cp => (decide (g = meN m) && (rcvB o && bmB ap cp)) && (chkE sc a o && chkE sc b y)
  | .lset a, .Call (.Name x _) [.Call (.Name y _) [z] [] _] [] _ => (!N.hot && (decide (x = ("len" : Str)) && glB sc x)) && ((decide (y = ("set" : Str)) && glB sc y) && chkE sc a z)
  | .rgv t a, .Call (.Name x _) [.Call (.Name y _) [z] [] _] [] _ => (!N.hot && (decide (x = rgF t) && glB sc x)) && ((decide (y = ("range" : Str)) && glB sc y) && chkE sc a z)
  | .rgv2 t a b, .Call (.Name x _) [.Call (.Name y _) [z, z2] [] _] [] _ => (!N.hot && (decide (x = rgF t) && glB sc x)) && ((decide (y = ("range" : Str)) && glB sc y) && (chkE sc a z && chkE sc b z2))
  | _, _ => false
def chkEs (sc : Scope) : Es → List Expr → Bool
  | .nil, [] => true
  | .cons e es, x :: xs => chkE sc e x && chkEs sc es xs
  | _, _ => false
def chkEo (sc : Scope) : Eo → Option Expr → Bool
  | .none, none => true
  | .some e, some x => chkE sc e x
  | _, _ => false
def chkC (sc : Scope) : Eo → List Expr → Bool
  | .none, [] => true
  | .some e, [x] => chkE sc e x
  | _, _ => false
def chkIt (sc : Scope) : It → Expr → Expr → Bool
  | .seq e, _, x => chkE sc e x
  | .range1 a, _, .Call (.Name f _) [x] [] _ => (decide (f = ("range" : Str)) && glB sc f) && chkE sc a x
  | .range2 a b, _, .Call (.Name f _) [x, y] [] _ => (decide (f = ("range" : Str)) && glB sc f) && (chkE sc a x && chkE sc b y)
  | .rangeW a b, _, .Call (.Name f _) [x, y] [] _ => (decide (f = ("range" : Str)) && glB sc f) && (chkE sc a x && chkE sc b y)
  | .zip a b, .Tuple _ _ _, .Call (.Name f _) [x, y] [] _ => (decide (f = ("zip" : Str)) && glB sc f) && (chkE sc a x && chkE sc b y)
  | .rev a, _, .Call (.Name f _) [x] [] _ => (decide (f = ("reversed" : Str)) && glB sc f) && chkE sc a x
  | _, _, _ => false
end
end
/-! ### what the top must hold -/
structure Both (p q : Prop) : Prop where
  l : p
  r : q
structure Kns where
  fn : Str → Nat → FSpec → Prop
  gl : Str → D → Prop
  fr : String → Prop
  ex : Str → Prop
  exf : Str → Str → Prop
  er : Prop
  ec : Str → Prop
mutual
def OkE (κ : Kns) : E → Prop
  | .glob x d => κ.gl x d
  | .bin _ a b => OkE κ a ∧ OkE κ b
  | .neg a => OkE κ a
  | .notE a => OkE κ a
  | .andE es => OkEs κ es
  | .orE es => OkEs κ es
  | .cmp _ a b => OkE κ a ∧ OkE κ b
  | .chain _ _ a b c => OkE κ a ∧ OkE κ b ∧ OkE κ c
  | .ite c a b => OkE κ c ∧ OkE κ a ∧ OkE κ b
  | .tup es => OkEs κ es
  | .lst es => OkEs κ es
  | .idx a i => OkE κ a ∧ OkE κ i
  | .sli a lo hi => OkE κ a ∧ OkEo κ lo ∧ OkEo κ hi
  | .revs a => OkE κ a
  | .call f sp es => κ.fn f es.len sp ∧ OkEs κ es
  | .bi f es => κ.fr (biN f) ∧ OkEs κ es
  | .isi a t => κ.fr "isinstance" ∧ κ.fr t ∧ OkE κ a
  | .comp _ it c e => OkIt κ it ∧ OkEo κ c ∧ OkE κ e
  | .meth _ a es => OkE κ a ∧ OkEs κ es
  | .isx _ c => κ.er ∧ κ.fr "isinstance" ∧ κ.ec c
  | .isxs _ cs => κ.er ∧ κ.fr "isinstance" ∧ ∀ c ∈ cs, κ.ec c ∧ c ≠ "ValueError"
  | .fld _ _ => κ.er
  | .lset a => κ.fr "len" ∧ κ.fr "set" ∧ OkE κ a
  | .rgv t a => κ.fr "range" ∧ κ.fr (if t then "tuple" else "list") ∧ OkE κ a
  | .rgv2 t a b => κ.fr "range" ∧ κ.fr (if t then "tuple" else "list") ∧ OkE κ a ∧ OkE κ b
  | _ => True
def OkEs (κ : Kns) : Es → Prop
  | .nil => True
  | .cons e es => OkE κ e ∧ OkEs κ es
def OkEo (κ : Kns) : Eo → Prop
  | .none => True
  | .some e => OkE κ e
def OkIt (κ : Kns) : It → Prop
  | .seq e => OkE κ e
  | .range1 a => κ.fr "range" ∧ OkE κ a
  | .range2 a b => κ.fr "range" ∧ OkE κ a ∧ OkE κ b
  | .rangeW a b => κ.fr "range" ∧ OkE κ a ∧ OkE κ b
  | .zip a b => κ.fr "zip" ∧ OkE κ a ∧ OkE κ b
  | .enum a => κ.fr "enumerate" ∧ OkE κ a
  | .rev a => κ.fr "reversed" ∧ OkE κ a
end
/-- an own exception class of the text -/
def ExK (X : Cx) (ca : CaL) (c : Str) : Prop := ∃ (B newId initId : String) (bm : List Value), ExcBaseFacts B newId initId bm ∧ PySem.W.excIn X.K (ca c) bm newId = true ∧ X.mg c = some (.ref (ca c)) ∧ PySem.W.keepIn X.K (.ref (ca c)) = true ∧ Raises X (.ref (ca c))
/-- the facts of a text's top, for a body in X: L levels of calls below -/
def kns (X : Cx) (ca : CaL) (L : Nat) : Kns where
  fn := fun x n sp => ∃ f fd ps, ps.length = n ∧ X.mg x = some (.ref f) ∧ PySem.W.keepIn X.K (.ref f) = true ∧ Binds X.K fd ps [] ∧ FnOk X.prog X.w X.K X.mg X.base (L2.CX X.prog X.w) L f fd ps (spOf X.K ca n sp)
  gl := fun x d => ∃ u, X.mg x = some u ∧ RelV (gV X.K x d) u ∧ (∀ C : Cc, C.K = X.K → ∀ O Hb H f, RepR C O Hb H (.v f d) (gV X.K x d))
  fr := fun x => X.mg x = none
  ex := fun c => Both (ExK X ca c) (c ∈ ca.l)
  exf := fun c f => Both (ExI X.prog X.w X.K X.mg X.base ca c f) (c ∈ ca.l) ∧ 2 ≤ L
  er := ErrK X.K ca X.mg
  ec := fun c => c ∈ ca.l ∨ (c = "ValueError" ∧ X.mg "ValueError" = none ∧ ¬ c ∈ ca.l)
structure Ctx (X : Cx) (sc : Scope) (N : Nm) (ca : CaL) (zx : ZX) (L : Nat) (W : WX) : Prop where
  hN : X.N = N.l
  nd : N.l.Nodup
  hsc : X.env.scope = sc
  calm : N.hot = false → X.calm = true
  room : N.hot = false → Room L X.A
  un : X.A.units + 64 < cLine
  hz : HotZ X ca zx
  nz : N.hot = false → ∀ a d c, ¬ zx a d c
  tk : Takes X W
  kd : X.env.scope.kind = .function
theorem chk_notStar {N : Nm} {sc : Scope} {m : E} {e : Expr} (h : chkE N sc m e = true) (es : List Expr) (env : PySem.Env) : starEach (e :: es) env = (false, eval e env) :: starEach es env := by
  cases e with
  | Starred v p => cases m <;> simp [chkE] at h
  | _ => rfl
theorem chks_plain {N : Nm} {sc : Scope} : ∀ {ms : Es} {es : List Expr}, chkEs N sc ms es = true → ∀ (pos : Pos) (env : PySem.Env), (backTo pos (starEach es env)).any (·.1) = false
  | .nil, [], _, _, _ => rfl
  | .nil, _ :: _, h, _, _ => by simp [chkEs] at h
  | .cons _ _, [], h, _, _ => by simp [chkEs] at h
  | .cons m ms, e :: es, h, pos, env => by
    simp only [chkEs, Bool.and_eq_true] at h
    rw [chk_notStar h.1 es env]
    have q := chks_plain h.2 pos env
    unfold backTo at q ⊢
    rw [List.map_cons, List.any_cons, q]
    rfl
theorem chks_len {N : Nm} {sc : Scope} : ∀ {ms : Es} {es : List Expr}, chkEs N sc ms es = true → es.length = ms.len
  | .nil, [], _ => rfl
  | .nil, _ :: _, h => by simp [chkEs] at h
  | .cons _ _, [], h => by simp [chkEs] at h
  | .cons m ms, e :: es, h => by
    simp only [chkEs, Bool.and_eq_true] at h
    simp [Es.len, chks_len h.2]
theorem plainIx {e : Expr} (h : noSl e = true) : PlainIx e := by
  intro o i
  cases e <;> first | rfl | (simp [noSl] at h)
theorem noMark {e : Expr} (h : noSet e = true) (op : CmpOp) : behindInMarks op e = false := by
  cases e <;> first | rfl | (simp [noSet] at h)
theorem noFold {e : Expr} (h : noSet e = true) (env : PySem.Env) : ∀ x, foldedSetIterable e env x = pure x := by
  intro x
  cases e <;> first | rfl | (simp [noSet] at h)
theorem vis_of {sc : Scope} {x : Str} (h : visB sc x = true) : Vis sc x := by
  unfold visB at h
  split at h <;> first | exact .inl (by assumption) | exact .inr (.inl (by assumption)) | exact .inr (.inr (by assumption)) | cases h
theorem loc_of {sc : Scope} {x : Str} (h : locB sc x = true) : Loc sc x := by
  unfold locB at h
  split at h <;> first | exact .inl (by assumption) | exact .inr (by assumption) | cases h
theorem lcl_of {sc : Scope} {x : Str} (h : lclB sc x = true) : sc.names.lookup x = some .local := by
  unfold lclB at h
  split at h <;> first | assumption | cases h
theorem gl_of {X : Cx} {sc : Scope} {x : Str} (hs : X.env.scope = sc) (h : glB sc x = true) : Gl X x ∧ (x == ("__debug__" : Str)) = false ∧ x ≠ "__name__" := by
  unfold glB at h
  rw [Bool.and_eq_true, Bool.and_eq_true] at h
  obtain ⟨h1, h2, h3⟩ := h
  refine ⟨?_, by simpa using h2, by simpa using h3⟩
  unfold Gl PySem.Env.kindOf
  rw [hs]
  split at h1 <;> first | assumption | cases h1
theorem op_of {o : Bop} {p : Operator} (h : opB o p = true) : p = bopOf o := by
  cases o <;> cases p <;> first | rfl | (simp [opB] at h)
theorem cm_of {o : Cop} {p : CmpOp} (h : cmB o p = true) : p = copOf o := by
  cases o <;> cases p <;> first | rfl | (simp [cmB] at h)
theorem isTy_ok {C : Cc} {P : Addr → Prop} {H : Hp} {d : D} {v : V} {t : String} {b : Bool} (r : Rep C P H d v) (h : isTy d t = some b) (ht : t = "int" ∨ t = "bool" ∨ t = "list" ∨ t = "tuple" ∨ t = "str" ∨ t = "dict") :
    ∃ u, TyX C.K H v u ∧ PySem.W.kitOne C.K u (.type t) = some b := by
  have kt : ∀ {a : String} {b' : Bool}, b' = b → kitB a t = some b' → PySem.W.kitOne C.K (.type a) (.type t) = some b := fun e z => e ▸ kit_ty z
  cases r with
  | non =>
    refine ⟨_, .base .non, ?_⟩
    simp [isTy] at h; subst h
    rcases ht with rfl | rfl | rfl | rfl | rfl | rfl <;> exact kit_ty (by decide +kernel)
  | bl x =>
    refine ⟨_, .base (.bl x), ?_⟩
    simp [isTy] at h; subst h
    rcases ht with rfl | rfl | rfl | rfl | rfl | rfl <;> exact kit_ty (by decide +kernel)
  | int x =>
    refine ⟨_, .base (.int x), ?_⟩
    simp [isTy] at h; subst h
    rcases ht with rfl | rfl | rfl | rfl | rfl | rfl <;> exact kit_ty (by decide +kernel)
  | str x =>
    refine ⟨_, .base (.str x), ?_⟩
    simp [isTy] at h; subst h
    rcases ht with rfl | rfl | rfl | rfl | rfl | rfl <;> exact kit_ty (by decide +kernel)
  | lst p h1 hl he =>
    refine ⟨_, .base (.lst h1), ?_⟩
    simp [isTy] at h; subst h
    rcases ht with rfl | rfl | rfl | rfl | rfl | rfl <;> exact kit_ty (by decide +kernel)
  | tup h1 hl he =>
    have : PySem.W.kitOne C.K (.type "tuple") (.type t) = some b := by
      simp [isTy] at h; subst h
      rcases ht with rfl | rfl | rfl | rfl | rfl | rfl <;> exact kit_ty (by decide +kernel)
    rcases h1 with (h1 | ⟨o, h1⟩) | ⟨o, its, n, hk, hc, _⟩
    · exact ⟨_, .base (.tup h1), this⟩
    · exact ⟨_, .fTuple h1, this⟩
    · exact ⟨_, .kTuple hk hc, this⟩
  | dic p h1 hk he =>
    refine ⟨_, .base (.dK h1), ?_⟩
    simp [isTy] at h; subst h
    rcases ht with rfl | rfl | rfl | rfl | rfl | rfl <;> exact kit_ty (by decide +kernel)
  | scr h1 => simp [isTy] at h
  | ty n => simp [isTy] at h
end Dv

namespace Dv
open PySem PySem.Spec PyProof.Rows L2
/-! ### inversions -/
section
variable {N : Nm} {sc : Scope} {e : Expr}
theorem inv_var {i : Nat} (h : chkE N sc (.var i) e = true) : ∃ x p, e = .Name x p ∧ nmB N i x = true ∧ visB sc x = true := by
  cases e <;> simp only [chkE, Bool.and_eq_true, Bool.false_eq_true] at h
  exact ⟨_, _, rfl, h⟩
theorem inv_int {i : Int} (h : chkE N sc (.int i) e = true) : ∃ k p, e = .Constant (.int i) k p := by
  cases e with
  | Constant c k p => cases c <;> simp [chkE] at h; subst h; exact ⟨_, _, rfl⟩
  | _ => simp [chkE] at h
theorem inv_bl {i : Bool} (h : chkE N sc (.bl i) e = true) : ∃ k p, e = .Constant (.bool i) k p := by
  cases e with
  | Constant c k p => cases c <;> simp [chkE] at h; subst h; exact ⟨_, _, rfl⟩
  | _ => simp [chkE] at h
theorem inv_non (h : chkE N sc .non e = true) : ∃ k p, e = .Constant .none k p := by
  cases e with
  | Constant c k p => cases c <;> simp [chkE] at h; exact ⟨_, _, rfl⟩
  | _ => simp [chkE] at h
theorem inv_str {i : Str} (h : chkE N sc (.str i) e = true) : ∃ k p, e = .Constant (.str i) k p := by
  cases e with
  | Constant c k p => cases c <;> simp [chkE] at h; subst h; exact ⟨_, _, rfl⟩
  | _ => simp [chkE] at h
theorem inv_glob {x : Str} {d : D} (h : chkE N sc (.glob x d) e = true) : ∃ p, e = .Name x p ∧ glB sc x = true := by
  cases e <;> simp only [chkE, Bool.and_eq_true, Bool.false_eq_true, decide_eq_true_eq] at h
  obtain ⟨rfl, h⟩ := h
  exact ⟨_, rfl, h⟩
theorem inv_bin {op : Bop} {a b : E} (h : chkE N sc (.bin op a b) e = true) : ∃ x y p, e = .BinOp x (bopOf op) y p ∧ chkE N sc a x = true ∧ chkE N sc b y = true := by
  cases e <;> simp only [chkE, Bool.and_eq_true, Bool.false_eq_true] at h
  obtain ⟨h1, h2⟩ := h
  exact ⟨_, _, _, by rw [op_of h1], h2⟩
theorem inv_neg {a : E} (h : chkE N sc (.neg a) e = true) : ∃ x p, e = .UnaryOp .USub x p ∧ chkE N sc a x = true := by
  cases e with
  | UnaryOp o x p => cases o <;> simp [chkE] at h; exact ⟨_, _, rfl, h⟩
  | _ => simp [chkE] at h
theorem inv_notE {a : E} (h : chkE N sc (.notE a) e = true) : ∃ x p, e = .UnaryOp .Not x p ∧ chkE N sc a x = true := by
  cases e with
  | UnaryOp o x p => cases o <;> simp [chkE] at h; exact ⟨_, _, rfl, h⟩
  | _ => simp [chkE] at h
theorem inv_andE {es : Es} (h : chkE N sc (.andE es) e = true) : ∃ xs p, e = .BoolOp .And xs p ∧ chkEs N sc es xs = true := by
  cases e with
  | BoolOp o x p => cases o <;> simp [chkE] at h; exact ⟨_, _, rfl, h⟩
  | _ => simp [chkE] at h
theorem inv_orE {es : Es} (h : chkE N sc (.orE es) e = true) : ∃ xs p, e = .BoolOp .Or xs p ∧ chkEs N sc es xs = true := by
  cases e with
  | BoolOp o x p => cases o <;> simp [chkE] at h; exact ⟨_, _, rfl, h⟩
  | _ => simp [chkE] at h
theorem inv_cmp {op : Cop} {a b : E} (h : chkE N sc (.cmp op a b) e = true) : ∃ x y p, e = .Compare x [copOf op] [y] p ∧ noSet y = true ∧ chkE N sc a x = true ∧ chkE N sc b y = true := by
  unfold chkE at h
  split at h <;> first | (cases h; done) | skip
  all_goals simp_all only [reduceCtorEq, E.cmp.injEq, Bool.and_eq_true]
  obtain ⟨rfl, rfl, rfl⟩ := ‹op = _ ∧ _›
  obtain ⟨⟨h1, h2⟩, h3⟩ := h
  exact ⟨_, _, _, by rw [cm_of h1], h2, h3⟩
theorem inv_chain {o p : Cop} {a b c : E} (h : chkE N sc (.chain o p a b c) e = true) : ∃ x y z q, e = .Compare x [copOf o, copOf p] [y, z] q ∧ noSet y = true ∧ noSet z = true ∧ chkE N sc a x = true ∧ chkE N sc b y = true ∧ chkE N sc c z = true := by
  unfold chkE at h
  split at h <;> first | (cases h; done) | skip
  all_goals simp_all only [reduceCtorEq, E.chain.injEq, Bool.and_eq_true]
  obtain ⟨rfl, rfl, rfl, rfl, rfl⟩ := ‹o = _ ∧ _›
  obtain ⟨⟨h1, h2⟩, ⟨h3, h4⟩, h5⟩ := h
  exact ⟨_, _, _, _, by rw [cm_of h1, cm_of h2], h3, h4, h5⟩
theorem inv_ite {c a b : E} (h : chkE N sc (.ite c a b) e = true) : ∃ z x y p, e = .IfExp z x y p ∧ chkE N sc c z = true ∧ chkE N sc a x = true ∧ chkE N sc b y = true := by
  cases e <;> simp only [chkE, Bool.and_eq_true, Bool.false_eq_true] at h
  exact ⟨_, _, _, _, rfl, h⟩
theorem inv_tup {es : Es} (h : chkE N sc (.tup es) e = true) : ∃ xs k p, e = .Tuple xs k p ∧ chkEs N sc es xs = true := by
  cases e <;> simp only [chkE, Bool.and_eq_true, Bool.false_eq_true] at h
  exact ⟨_, _, _, rfl, h⟩
theorem inv_lst {es : Es} (h : chkE N sc (.lst es) e = true) : ∃ xs p, e = .List xs p ∧ chkEs N sc es xs = true := by
  cases e <;> simp only [chkE, Bool.and_eq_true, Bool.false_eq_true] at h
  exact ⟨_, _, rfl, h⟩
theorem inv_dic0 (h : chkE N sc .dic0 e = true) : ∃ p, e = .Dict [] [] p := by
  unfold chkE at h
  split at h <;> first | (cases h; done) | skip
  all_goals simp_all only [reduceCtorEq]
  exact ⟨_, rfl⟩
theorem inv_dicC {kvs : KvL} (h : chkE N sc (.dicC kvs) e = true) : ∃ ks vs p, e = .Dict ks vs p ∧ kvs ≠ [] ∧ kvs.length ≤ 15 ∧ chkDc kvs ks vs = true := by
  unfold chkE at h
  split at h <;> first | (cases h; done) | skip
  all_goals simp only [reduceCtorEq, E.dicC.injEq] at *
  all_goals simp only [Bool.and_eq_true, decide_eq_true_eq] at h
  obtain ⟨⟨h1, h2⟩, h3⟩ := h
  subst ‹kvs = _›
  exact ⟨_, _, _, rfl, (fun z => by rw [z] at h1; cases h1), h2, h3⟩
theorem inv_idx {a i : E} (h : chkE N sc (.idx a i) e = true) : ∃ x y p, e = .Subscript x y p ∧ noSl y = true ∧ chkE N sc a x = true ∧ chkE N sc i y = true := by
  unfold chkE at h
  split at h <;> first | (cases h; done) | skip
  all_goals simp_all only [reduceCtorEq, E.idx.injEq, Bool.and_eq_true]
  obtain ⟨rfl, rfl⟩ := ‹a = _ ∧ _›
  exact ⟨_, _, _, rfl, h⟩
theorem inv_sli {a : E} {lo hi : Eo} (h : chkE N sc (.sli a lo hi) e = true) : ∃ x l u p q, e = .Subscript x (.Slice l u none p) q ∧ chkE N sc a x = true ∧ chkEo N sc lo l = true ∧ chkEo N sc hi u = true := by
  unfold chkE at h
  split at h <;> first | (cases h; done) | skip
  all_goals simp_all only [reduceCtorEq, E.sli.injEq, Bool.and_eq_true]
  obtain ⟨rfl, rfl, rfl⟩ := ‹a = _ ∧ _›
  exact ⟨_, _, _, _, _, rfl, h⟩
theorem inv_revs {a : E} (h : chkE N sc (.revs a) e = true) : ∃ x k p1 p2 p3 p, e = .Subscript x (.Slice none none (some (.UnaryOp .USub (.Constant (.int 1) k p1) p2)) p3) p ∧ chkE N sc a x = true := by
  unfold chkE at h
  split at h <;> first | (cases h; done) | skip
  all_goals simp_all only [reduceCtorEq, E.revs.injEq, Bool.and_eq_true]
  exact ⟨_, _, _, _, _, _, rfl, h⟩
theorem inv_call {f : Str} {sp : FSpec} {es : Es} (h : chkE N sc (.call f sp es) e = true) : N.hot = false ∧ ∃ p x xs q, e = .Call (.Name f p) (x :: xs) [] q ∧ glB sc f = true ∧ chkEs N sc es (x :: xs) = true := by
  cases e with
  | Call fn xs kw p =>
    cases fn with
    | Name x q =>
      cases kw with
      | nil =>
        simp only [chkE, Bool.and_eq_true, decide_eq_true_eq, Bool.not_eq_true'] at h
        obtain ⟨⟨h0, rfl, h1⟩, h2, h3⟩ := h
        cases xs with
        | nil => simp at h2
        | cons x xs => exact ⟨h0, _, _, _, _, rfl, h1, h3⟩
      | cons _ _ => simp [chkE] at h
    | _ => simp [chkE] at h
  | _ => simp [chkE] at h
theorem inv_bi {f : Bi} {es : Es} (h : chkE N sc (.bi f es) e = true) : N.hot = false ∧ ∃ p x xs q, e = .Call (.Name (biN f) p) (x :: xs) [] q ∧ glB sc (biN f) = true ∧ biOk f = true ∧ chkEs N sc es (x :: xs) = true := by
  cases e with
  | Call fn xs kw p =>
    cases fn with
    | Name x q =>
      cases kw with
      | nil =>
        simp only [chkE, Bool.and_eq_true, decide_eq_true_eq, Bool.not_eq_true'] at h
        obtain ⟨⟨h0, rfl, h1, h9⟩, h2, h3⟩ := h
        cases xs with
        | nil => simp at h2
        | cons x xs => exact ⟨h0, _, _, _, _, rfl, h1, h9, h3⟩
      | cons _ _ => simp [chkE] at h
    | _ => simp [chkE] at h
  | _ => simp [chkE] at h
theorem inv_isi {a : E} {t : String} (h : chkE N sc (.isi a t) e = true) : ∃ p y q r, e = .Call (.Name "isinstance" p) [y, .Name t q] [] r ∧ glB sc "isinstance" = true ∧ glB sc t = true ∧ tyB t = true ∧ chkE N sc a y = true := by
  unfold chkE at h
  split at h <;> first | (cases h; done) | skip
  all_goals simp only [reduceCtorEq, E.isi.injEq] at *
  all_goals simp only [Bool.and_eq_true, decide_eq_true_eq] at h
  obtain ⟨⟨e1, h1⟩, ⟨e2, h2, h3⟩, h4⟩ := h
  obtain ⟨e3, e4⟩ := ‹a = _ ∧ _›
  subst e1 e3 e4
  rw [← e2] at h2
  exact ⟨_, _, _, _, by rw [← e2], h1, h2, h3, h4⟩
theorem inv_comp {t : Tg} {it : Dv.It} {c : Eo} {m : E} (h : chkE N sc (.comp t it c m) e = true) : N.hot = false ∧ ∃ x tg itx ifs scope p, e = .ListComp x [⟨tg, itx, ifs, 0⟩] scope p ∧ noSet itx = true ∧ blkC N.l sc scope (tgO t tg) = true ∧ (tgO t tg).map (·.2) = tgS t ∧
    chkIt N sc it tg itx = true ∧ tgB false (relS scope sc) N t tg = true ∧ chkC N (relS scope sc) c ifs = true ∧ chkE N (relS scope sc) m x = true := by
  unfold chkE at h
  split at h <;> first | (cases h; done) | skip
  all_goals simp_all only [reduceCtorEq, E.comp.injEq, Bool.and_eq_true, decide_eq_true_eq, Bool.not_eq_true']
  obtain ⟨rfl, rfl, rfl, rfl⟩ := ‹t = _ ∧ _›
  obtain ⟨⟨z, ⟨rfl, h0⟩, h1, h2⟩, h3, h4, h5, h6⟩ := h
  exact ⟨trivial, _, _, _, _, _, _, rfl, h0, h1, h2, h3, h4, h5, h6⟩
theorem inv_isx {i : Nat} {c : Str} (h : chkE N sc (.isx i c) e = true) : ∃ p y q r s, e = .Call (.Name "isinstance" p) [.Name y q, .Name c r] [] s ∧ glB sc "isinstance" = true ∧ (nmB N i y = true ∧ visB sc y = true) ∧ glB sc c = true := by
  unfold chkE at h
  split at h <;> first | (cases h; done) | skip
  all_goals simp only [reduceCtorEq, E.isx.injEq] at *
  all_goals simp only [Bool.and_eq_true, decide_eq_true_eq] at h
  obtain ⟨⟨rfl, h1⟩, h2, rfl, h3⟩ := h
  obtain ⟨e1, e2⟩ := ‹i = _ ∧ _›
  subst e1 e2
  exact ⟨_, _, _, _, _, rfl, h1, h2, h3⟩
theorem inv_isxs {i : Nat} {cs : List Str} (h : chkE N sc (.isxs i cs) e = true) : ∃ p y q zs k r s, e = .Call (.Name "isinstance" p) [.Name y q, .Tuple zs k r] [] s ∧ glB sc "isinstance" = true ∧ (nmB N i y = true ∧ visB sc y = true) ∧ cs.length ≤ 64 ∧ nmsB sc cs zs = true := by
  unfold chkE at h
  split at h <;> first | (cases h; done) | skip
  all_goals simp only [reduceCtorEq, E.isxs.injEq] at *
  all_goals simp only [Bool.and_eq_true, decide_eq_true_eq] at h
  obtain ⟨⟨rfl, h1⟩, h2, h3⟩ := h
  obtain ⟨e1, e2⟩ := ‹i = _ ∧ _›
  subst e1 e2
  exact ⟨_, _, _, _, _, _, _, rfl, h1, h2, h3⟩
theorem inv_fld {i : Nat} {f : Str} (h : chkE N sc (.fld i f) e = true) : ∃ y q r, e = .Attribute (.Name y q) f r ∧ (f = "divisor" ∨ f = "name") ∧ (nmB N i y = true ∧ visB sc y = true) := by
  unfold chkE at h
  split at h <;> first | (cases h; done) | skip
  all_goals simp only [reduceCtorEq, E.fld.injEq] at *
  all_goals simp only [Bool.and_eq_true, Bool.or_eq_true, decide_eq_true_eq] at h
  obtain ⟨⟨rfl, h1⟩, h2⟩ := h
  obtain ⟨e1, e2⟩ := ‹i = _ ∧ _›
  subst e1 e2
  exact ⟨_, _, _, rfl, h1, h2⟩
theorem inv_meth {m : Me} {a : E} {es : Es} (h : chkE N sc (.meth m a es) e = true) : ∃ b o ap y cp, es = .cons b .nil ∧ e = .Call (.Attribute o (meN m) ap) [y] [] cp ∧ rcvB o = true ∧ bmB ap cp = true ∧ chkE N sc a o = true ∧ chkE N sc b y = true := by
  unfold chkE at h
  split at h <;> first | (cases h; done) | skip
  all_goals simp only [reduceCtorEq, E.meth.injEq] at *
  all_goals simp only [Bool.and_eq_true, decide_eq_true_eq] at h
  obtain ⟨⟨rfl, h1, h2⟩, h3, h4⟩ := h
  obtain ⟨e1, e2, e3⟩ := ‹m = _ ∧ _›
  subst e1 e2 e3
  exact ⟨_, _, _, _, _, rfl, rfl, h1, h2, h3, h4⟩
theorem inv_lset {a : E} (h : chkE N sc (.lset a) e = true) : N.hot = false ∧ ∃ p q z r s, e = .Call (.Name "len" p) [.Call (.Name "set" q) [z] [] r] [] s ∧ glB sc "len" = true ∧ glB sc "set" = true ∧ chkE N sc a z = true := by
  unfold chkE at h
  split at h <;> first | (cases h; done) | skip
  all_goals simp only [reduceCtorEq, E.lset.injEq] at *
  all_goals simp only [Bool.and_eq_true, decide_eq_true_eq, Bool.not_eq_true'] at h
  obtain ⟨⟨h0, rfl, h1⟩, ⟨rfl, h2⟩, h3⟩ := h
  subst ‹a = _›
  exact ⟨h0, _, _, _, _, _, rfl, h1, h2, h3⟩
theorem inv_rgv {t : Bool} {a : E} (h : chkE N sc (.rgv t a) e = true) : N.hot = false ∧ ∃ p q z r s, e = .Call (.Name (rgF t) p) [.Call (.Name "range" q) [z] [] r] [] s ∧ glB sc (rgF t) = true ∧ glB sc "range" = true ∧ chkE N sc a z = true := by
  unfold chkE at h
  split at h <;> first | (cases h; done) | skip
  all_goals simp only [reduceCtorEq, E.rgv.injEq] at *
  all_goals simp only [Bool.and_eq_true, decide_eq_true_eq, Bool.not_eq_true'] at h
  obtain ⟨⟨h0, rfl, h1⟩, ⟨rfl, h2⟩, h3⟩ := h
  obtain ⟨e1, e2⟩ := ‹t = _ ∧ _›
  subst e1 e2
  exact ⟨h0, _, _, _, _, _, rfl, h1, h2, h3⟩
theorem inv_rgv2 {t : Bool} {a b : E} (h : chkE N sc (.rgv2 t a b) e = true) : N.hot = false ∧ ∃ p q z z2 r s, e = .Call (.Name (rgF t) p) [.Call (.Name "range" q) [z, z2] [] r] [] s ∧ glB sc (rgF t) = true ∧ glB sc "range" = true ∧ chkE N sc a z = true ∧ chkE N sc b z2 = true := by
  unfold chkE at h
  split at h <;> first | (cases h; done) | skip
  all_goals simp only [reduceCtorEq, E.rgv2.injEq] at *
  all_goals simp only [Bool.and_eq_true, decide_eq_true_eq, Bool.not_eq_true'] at h
  obtain ⟨⟨h0, rfl, h1⟩, ⟨rfl, h2⟩, h3, h4⟩ := h
  obtain ⟨e1, e2, e3⟩ := ‹t = _ ∧ _›
  subst e1 e2 e3
  exact ⟨h0, _, _, _, _, _, _, rfl, h1, h2, h3, h4⟩
theorem inv_none_E {m : E} (hm : ∀ N sc e, chkE N sc m e = false) (h : chkE N sc m e = true) : False := by rw [hm] at h; cases h
end
end Dv

namespace Dv
open PySem PySem.Spec PyProof.Rows L2
section
variable {prog : Program} {w : World} {A : Around} {E : Value → Shared → Prop} {s : Shared}
theorem argsMin4 (a b c d : Value) : argsOk "min" ⟨[a, b, c, d], []⟩ := by unfold argsOk; kernel_rfl
theorem call_min_four {a b c d : Value} {Q : Value → Shared → Prop}
    (h : wpAny (model prog w) A.in1 (pyIter (.ref s.heap.objs.size)) (fun it s₂ => ∃ I fp wr n P St bt, it = .ref I ∧ Walks prog w A.in1 I fp wr n P St ∧ St 0 s₂.heap ∧ (∀ b ∈ fp, b < s₂.heap.objs.size) ∧ 0 < n ∧ CmpOf prog w A.in1 .Lt P bt ∧
      ∀ v h' tk, P (argBest bt (n - 1)) v → (∀ b o, b ∉ wr → s₂.heap.get? b = some o → h'.get? b = some o) → Q v { s₂ with heap := h', toks := tk }) E
      { s with heap := s.heap.push { cls := .type "tuple", data := .seq #[a, b, c, d] } }) :
    wpAny (model prog w) A (call (.builtin "min") [a, b, c, d]) Q E s := by
  have hname : (toString "min" ++ toString ".loop" : String) = "min.loop" := by decide
  refine call_function_tree F.kind_min F.plain_min F.entry_min (argsMin4 _ _ _ _) ?_
  show wpAny _ A.in1 (Builtin.Builtins.bindParams "min" ["key", "default"] 0 ⟨[], []⟩ >>= _) _ _ s
  refine wpAny_bind (wpAny_of_eq (show Builtin.Builtins.bindParams "min" ["key", "default"] 0 ⟨[], []⟩ = pure [none, none] from rfl) ?_)
  show wpAny _ A.in1 (newTuple [a, b, c, d] >>= _) _ _ s
  refine wpAny_bind (wpAny_newObj_type ?_)
  refine wpAny_bind (wpAny_mono h (fun it s₂ h₂ => ?_) fun _ _ e => e)
  obtain ⟨I, fp, wr, n, P, St, bt, rfl, W, hst, hfp, hn, hcmp, hQ⟩ := h₂
  refine wpAny_bind (wpAny_newObj_type ?_)
  have hSf : s₂.heap.objs.size ∉ fp := fun hm => Nat.lt_irrefl _ (hfp _ hm)
  rw [hname]
  refine wpAny_pure ⟨plainId_quiet F.plain_min_loop _, codeAny_min_loop_first W bt hcmp s₂.heap.objs.size hSf hn (W.frame _ _ _ hst fun b _ o e => Heap.get?_push_of_some _ e) (Heap.get?_push_size _ rfl) fun v h' tk hP hk => ?_⟩
  exact hQ v h' tk hP fun b o hbw e => hk b o hbw (Nat.ne_of_lt (Heap.lt_size e)) (Heap.get?_push_of_some _ e)
theorem min_four_ints {a b c d : Int} {t u x y : Tok} {Q : Value → Shared → Prop} (hh : A.handled = none)
    (h : ∀ h' tk t', (∀ d o, s.heap.get? d = some o → h'.get? d = some o) → Q (.int (minL a [b, c, d]) t') { s with heap := h', toks := tk }) :
    wpAny (model prog w) A (call (.builtin "min") [.int a t, .int b u, .int c x, .int d y]) Q E s := by
  have hT : (s.heap.push { cls := .type "tuple", data := .seq #[.int a t, .int b u, .int c x, .int d y] }).IsTuple s.heap.objs.size (intItems #[(a, t), (b, u), (c, x), (d, y)]) := ⟨_, Heap.get?_push_size _ rfl, rfl, 0, by simp [intItems]⟩
  refine call_min_four (wpAny_pyIter_tuple hT ?_)
  have hsz : (s.heap.push { cls := .type "tuple", data := .seq #[.int a t, .int b u, .int c x, .int d y] }).objs.size = s.heap.objs.size + 1 := Heap.size_push ..
  refine ⟨_, [_, s.heap.objs.size], [_], _, _, _, _, rfl, Walks.tuple (A := A.in1) hh _ s.heap.objs.size (by rw [hsz]; exact Nat.ne_of_lt (Nat.lt_succ_self _)) (intItems #[(a, t), (b, u), (c, x), (d, y)]),
    ⟨⟨_, Heap.get?_push_size _ rfl, rfl, rfl⟩, hT.push _⟩, fun d hd => ?_, by simp [intItems], CmpOf.ints_lt (numAt #[(a, t), (b, u), (c, x), (d, y)]) (fun _ _ => intItems_at), fun v h' tk hP hk => ?_⟩
  · show d < ((s.heap.push _).push _).objs.size
    rw [Heap.size_push, hsz]
    rcases List.mem_cons.mp hd with rfl | hd
    · rw [hsz]; exact Nat.lt_succ_self _
    · rcases List.mem_cons.mp hd with rfl | hd
      · exact Nat.lt_succ_of_lt (Nat.lt_succ_self _)
      · cases hd
  · have hold : ∀ d o, s.heap.get? d = some o → h'.get? d = some o := fun d o e => by
      refine hk d o (fun hm => ?_) (Heap.get?_push_of_some _ (Heap.get?_push_of_some _ e))
      rcases List.mem_cons.mp hm with e1 | hm
      · have := Heap.lt_size e; rw [e1, hsz] at this; exact Nat.lt_irrefl _ (Nat.lt_of_succ_lt this)
      · cases hm
    have hP' : (intItems #[(a, t), (b, u), (c, x), (d, y)])[argBest (fun i j => decide (numAt #[(a, t), (b, u), (c, x), (d, y)] i < numAt #[(a, t), (b, u), (c, x), (d, y)] j)) 3]? = some v := by
      have hsz2 : (intItems #[(a, t), (b, u), (c, x), (d, y)]).size - 1 = 3 := by simp [intItems]
      rw [← hsz2]; exact hP
    have hv : ∃ t', v = .int (minL a [b, c, d]) t' := by
      by_cases h1 : b < a
      · by_cases h2 : c < b
        · by_cases h3 : d < c
          · have e : argBest (fun i j => decide (numAt #[(a, t), (b, u), (c, x), (d, y)] i < numAt #[(a, t), (b, u), (c, x), (d, y)] j)) 3 = 3 := by simp [argBest, numAt, h1, h2, h3]
            rw [e] at hP'
            exact ⟨y, by simpa [intItems, minL, h1, h2, h3] using hP'.symm⟩
          · have e : argBest (fun i j => decide (numAt #[(a, t), (b, u), (c, x), (d, y)] i < numAt #[(a, t), (b, u), (c, x), (d, y)] j)) 3 = 2 := by simp [argBest, numAt, h1, h2, h3]
            rw [e] at hP'
            exact ⟨x, by simpa [intItems, minL, h1, h2, h3] using hP'.symm⟩
        · by_cases h3 : d < b
          · have e : argBest (fun i j => decide (numAt #[(a, t), (b, u), (c, x), (d, y)] i < numAt #[(a, t), (b, u), (c, x), (d, y)] j)) 3 = 3 := by simp [argBest, numAt, h1, h2, h3]
            rw [e] at hP'
            exact ⟨y, by simpa [intItems, minL, h1, h2, h3] using hP'.symm⟩
          · have e : argBest (fun i j => decide (numAt #[(a, t), (b, u), (c, x), (d, y)] i < numAt #[(a, t), (b, u), (c, x), (d, y)] j)) 3 = 1 := by simp [argBest, numAt, h1, h2, h3]
            rw [e] at hP'
            exact ⟨u, by simpa [intItems, minL, h1, h2, h3] using hP'.symm⟩
      · by_cases h2 : c < a
        · by_cases h3 : d < c
          · have e : argBest (fun i j => decide (numAt #[(a, t), (b, u), (c, x), (d, y)] i < numAt #[(a, t), (b, u), (c, x), (d, y)] j)) 3 = 3 := by simp [argBest, numAt, h1, h2, h3]
            rw [e] at hP'
            exact ⟨y, by simpa [intItems, minL, h1, h2, h3] using hP'.symm⟩
          · have e : argBest (fun i j => decide (numAt #[(a, t), (b, u), (c, x), (d, y)] i < numAt #[(a, t), (b, u), (c, x), (d, y)] j)) 3 = 2 := by simp [argBest, numAt, h1, h2, h3]
            rw [e] at hP'
            exact ⟨x, by simpa [intItems, minL, h1, h2, h3] using hP'.symm⟩
        · by_cases h3 : d < a
          · have e : argBest (fun i j => decide (numAt #[(a, t), (b, u), (c, x), (d, y)] i < numAt #[(a, t), (b, u), (c, x), (d, y)] j)) 3 = 3 := by simp [argBest, numAt, h1, h2, h3]
            rw [e] at hP'
            exact ⟨y, by simpa [intItems, minL, h1, h2, h3] using hP'.symm⟩
          · have e : argBest (fun i j => decide (numAt #[(a, t), (b, u), (c, x), (d, y)] i < numAt #[(a, t), (b, u), (c, x), (d, y)] j)) 3 = 0 := by simp [argBest, numAt, h1, h2, h3]
            rw [e] at hP'
            exact ⟨t, by simpa [intItems, minL, h1, h2, h3] using hP'.symm⟩
    obtain ⟨t', rfl⟩ := hv
    exact h h' tk t' hold
end
section
variable {X : Cx}
theorem cr_minN (hc : X.calm = true) : CallR X (.builtin "min") rMinN := by
  intro pins s σ H xs us Q I r h
  rcases h with ⟨i, j, k, rfl, q⟩ | ⟨i, j, k, l, rfl, q⟩
  · obtain ⟨_, _, _, rfl, ⟨t, rfl⟩, ⟨t', rfl⟩, ⟨t'', rfl⟩⟩ := vals3 r
    refine min_three_ints (I.ok.hd hc) fun h' tk kk => ⟨_, H, I.kept kk, ?_, q⟩
    by_cases h1 : j < i
    · by_cases h2 : k < j
      · rw [if_pos h1, if_pos h2]; exact ⟨_, by simp [minL, h1, h2]; rfl⟩
      · rw [if_pos h1, if_neg h2]; exact ⟨_, by simp [minL, h1, h2]; rfl⟩
    · by_cases h2 : k < i
      · rw [if_neg h1, if_pos h2]; exact ⟨_, by simp [minL, h1, h2]; rfl⟩
      · rw [if_neg h1, if_neg h2]; exact ⟨_, by simp [minL, h1, h2]; rfl⟩
  · cases r with
    | cons r1 r2 =>
      obtain ⟨_, _, _, rfl, ⟨t, rfl⟩, ⟨t', rfl⟩, ⟨t'', rfl⟩⟩ := vals3 r2
      obtain ⟨t0, rfl⟩ := r1
      exact min_four_ints (I.ok.hd hc) fun h' tk t' kk => ⟨.int (minL i [j, k, l]), H, I.kept kk, ⟨t', rfl⟩, q⟩
end
end Dv

namespace Dv
open PySem PySem.Spec PyProof.Rows L2
section
variable {X : Cx} {sc : Scope} {N : Nm} {L : Nat} {W : WX} {K : PySem.W.Frag} {ca : CaL} {zx : ZX}
theorem nm_of {i : Nat} {x : Str} (h : nmB N i x = true) : N.l[i]? = some x ∧ (x == ("__debug__" : Str)) = false ∧ (x == ("__classdict__" : Str)) = false := by
  unfold nmB at h
  simp only [Bool.and_eq_true, decide_eq_true_eq, Bool.not_eq_true'] at h
  exact h
theorem pg_nm {b : Bool} {i : Nat} {x : Str} {p : Pos} (c : Ctx X sc N ca zx L W) (hf : b = true → ∀ x, X.fn x = true) (h : (nmB N i x && lcB b sc x) = true) : PG X (.Name x p) (gName i) := by
  rw [Bool.and_eq_true] at h
  have h2 := h.2
  unfold lcB at h2
  rw [Bool.or_eq_true, Bool.and_eq_true] at h2
  rcases h2 with h2 | ⟨h2, h3⟩
  · have hl : X.env.scope.names.lookup x = some .local := by rw [c.hsc]; exact lcl_of h2
    exact pg_name (by rw [c.hN]; exact c.nd) (by rw [c.hN]; exact (nm_of h.1).1) (.inl hl) (.inr hl)
  · exact pg_name (by rw [c.hN]; exact c.nd) (by rw [c.hN]; exact (nm_of h.1).1) (by rw [c.hsc]; exact loc_of h3) (.inl (hf h2 x))
theorem pg_of {b : Bool} {t : Tg} {e : Expr} (c : Ctx X sc N ca zx L W) (hc : X.calm = true ∨ ∃ i, t = .nm i) (hf : b = true → ∀ x, X.fn x = true) (hK : X.K = K) (h : tgB b sc N t e = true) : PG X e (rdTg K t) := by
  subst hK
  rcases hc with cc | ⟨i0, rfl⟩
  · unfold tgB at h
    split at h
    · exact pg_nm c hf h
    · rw [Bool.and_eq_true] at h
      exact pg_un cc (pgs_cons (pg_nm c hf h.1) (pgs_cons (pg_nm c hf h.2) pgs_nil))
    · rw [Bool.and_eq_true, Bool.and_eq_true (a := (_ && lcB b sc _))] at h
      exact pg_un cc (pgs_cons (pg_nm c hf h.1) (pgs_cons (pg_nm c hf h.2.1) (pgs_cons (pg_nm c hf h.2.2) pgs_nil)))
    · rw [Bool.and_eq_true, Bool.and_eq_true (a := (_ && lcB b sc _)), Bool.and_eq_true (a := (_ && lcB b sc _))] at h
      exact pg_un cc (pgs_cons (pg_nm c hf h.1) (pgs_cons (pg_nm c hf h.2.1) (pgs_cons (pg_nm c hf h.2.2.1) (pgs_cons (pg_nm c hf h.2.2.2) pgs_nil))))
    · rw [Bool.and_eq_true, Bool.and_eq_true (a := (_ && lcB b sc _)), Bool.and_eq_true (a := (_ && lcB b sc _))] at h
      exact pg_tup cc (pgs_cons (pg_tup cc (pgs_cons (pg_nm c hf h.1) (pgs_cons (pg_nm c hf h.2.1) pgs_nil))) (pgs_cons (pg_tup cc (pgs_cons (pg_nm c hf h.2.2.1) (pgs_cons (pg_nm c hf h.2.2.2) pgs_nil))) pgs_nil))
    · cases h
  · cases e <;> first | exact pg_nm c hf h | (simp [tgB] at h)
theorem call_B (hc : X.calm = true) : ∀ f : Bi, biTy f = false → CallR X (.builtin (biN f)) (rBi X.K f)
  | .abs, _ => call_abs
  | .len, _ => call_len
  | .max, _ => (call_max2 hc).or (cr_max hc)
  | .min, _ => (call_min2 hc).or ((cr_min hc).or (cr_minN hc))
  | .sum, _ => cr_sum hc
  | .all, _ => cr_all hc
  | .any, _ => cr_any hc
  | .divmod, _ => call_divmodW
  | .sorted, _ => cr_sortedI.or cr_sortedS
  | .lenset, _ => fun _ _ _ _ _ _ _ _ _ h => h.elim
  | .str, h => by cases h
  | .list, h => by cases h
  | .tuple, h => by cases h
  | .int, h => by cases h
theorem call_T (hc : X.calm = true) : ∀ f : Bi, biTy f = true → CallR X (.type (biN f)) (rBi X.K f)
  | .list, _ => call_list_of.or (call_list_dK hc)
  | .tuple, _ => call_tuple_of
  | .int, _ => call_int1.or call_int_str
  | .str, _ => call_str_int
  | .abs, h => by cases h
  | .len, h => by cases h
  | .max, h => by cases h
  | .min, h => by cases h
  | .sum, h => by cases h
  | .all, h => by cases h
  | .any, h => by cases h
  | .divmod, h => by cases h
  | .sorted, h => by cases h
  | .lenset, h => by cases h
theorem bi_boot : ∀ f : Bi, biOk f = true → bootBuiltins (biN f) = some (if biTy f = true then .type (biN f) else .builtin (biN f)) := by
  intro f h
  cases f <;> first | (decide +kernel) | (cases h)
/-- the context of a comprehension's block -/
theorem Ctx.blk (c : Ctx X sc N ca zx L W) {s : Shared} {H : Hp} {scope : Scope} {cl : List (Str × Addr)} {Cc : Addr} {fp : List Addr} (hh : N.hot = false) (hk : scope.kind = .function) : Ctx (X.blk s H scope (compEnvC scope cl Cc X.env) fp) (relS scope sc) N ca zx L W0 := by
  refine ⟨c.hN, c.nd, ?_, c.calm, c.room, c.un, fun a d c' z => (c.nz hh a d c' z).elim, c.nz, takes0, ?_⟩
  · show relS scope X.env.scope = relS scope sc
    rw [c.hsc]
  · show (relS scope X.env.scope).kind = .function
    exact hk
abbrev DEk (K : PySem.W.Frag) (ca : CaL) (zx : ZX) (W : WX) (t : TE) (w : WpE) : Prop := ∀ C : Cc, C.K = K → C.ca = ca → (∀ a d c, C.Z a d c → zx a d c) → DE C W t w
abbrev DTk (K : PySem.W.Frag) (ca : CaL) (zx : ZX) (W : WX) (t : TT) (w : WpT) : Prop := ∀ C : Cc, C.K = K → C.ca = ca → (∀ a d c, C.Z a d c → zx a d c) → DT C W t w
abbrev DAk (K : PySem.W.Frag) (ca : CaL) (zx : ZX) (W : WX) (n : Nat) (t : TA) (w : En → (List R → Prop) → (Exn → Prop) → Prop) : Prop := ∀ C : Cc, C.K = K → C.ca = ca → (∀ a d c, C.Z a d c → zx a d c) → DA C W n t w
theorem pt_tru {e : Expr} {t : TE} (h : PE X e t) (he : ∀ whole, isTrue e X.env whole = (do let v ← whole; standAt e.pos; holding [v] (truthy v))) (hK : X.K = K) : PT X e (fun σ H Q => t σ H fun x H' => ∃ k, TruV K x H' k ∧ Q k H') := by
  subst hK
  exact pt_truth h he
theorem de_call_k {n : Nat} {sp : FSpec} {ta : TA} {wa : En → (List R → Prop) → (Exn → Prop) → Prop} (ha : DAk K ca zx W n ta wa) : DEk K ca zx W (tCallS (spOf K ca n sp) (WE W) ta) (fun env Q X => wa env (fun rs => callW sp rs Q X) X) :=
  fun C h1 h2 hZ => de_call h1 h2 (ha C h1 h2 hZ)
theorem de_bi_k {b : Bi} {n : Nat} {ta : TA} {wa : En → (List R → Prop) → (Exn → Prop) → Prop} (ha : DAk K ca zx W n ta wa) : DEk K ca zx W (tCB (rBi K b) ta) (fun env Q X => wa env (fun rs => biW b rs Q) X) := fun C h1 h2 hZ => by
  subst h1
  exact de_bi (ha C rfl h2 hZ)
theorem de_isi_k {t : String} {ta : TE} {wa : WpE} (ht : tyB t = true) (ha : DEk K ca zx W ta wa) : DEk K ca zx W (tCB (rIsi K) (tCons ta (tCons (tC (.ty t)) tNil))) (fun env Q X => wa env (fun x => isiW x t fun b => Q (.v .fro (.bl b))) X) := fun C h1 h2 hZ => by
  subst h1
  intro G env σ H Q Qx Qv R hx hq h
  refine ha C rfl h2 hZ G env σ H _ Qx _ R hx ?_ h
  intro v H1 r s1 p q
  unfold isiW at q
  split at q
  · rename_i b e
    obtain ⟨u, t1, t2⟩ := isTy_ok p.el e (ty_of ht)
    exact ⟨v, .ty t, u, .type t, b, rfl, .ty t, t1, t2, hq _ H1 _ s1 repB q⟩
  · exact q.elim
theorem de_tru_k {ta : TE} {wa : WpE} (ha : DEk K ca zx W ta wa) : DTk K ca zx W (fun σ H Q => ta σ H fun x H' => ∃ k, TruV K x H' k ∧ Q k H') (fun env Q X => wa env (fun x => truthW x Q) X) := fun C h1 h2 hZ => by
  subst h1
  exact dt_tru (ha C rfl h2 hZ)
theorem de_not_k {ta : TE} {wa : WpE} (ha : DEk K ca zx W ta wa) : DEk K ca zx W (tNotT K ta) (fun env Q X => wa env (fun x => truthW x fun b => Q (.v .fro (.bl (!b)))) X) := fun C h1 h2 hZ => by
  subst h1
  intro G env σ H Q Qx Qv R hx hq h
  refine ha C rfl h2 hZ G env σ H _ Qx _ R hx ?_ h
  intro v H1 r s1 p q
  obtain ⟨k, z, q⟩ := tru_of (b := true) p q
  exact ⟨k, z, hq _ H1 _ s1 repB q⟩
theorem bad_t {e : Expr} : PT X e (fun _ _ _ => False) := ⟨fun _ _ _ _ _ _ h => h.elim⟩
theorem bad_w {e : Expr} : PW X e (fun _ _ _ => False) := ⟨fun _ _ _ _ _ _ _ h => h.elim⟩
theorem bad_e {e : Expr} : PE X e (fun _ _ _ => False) := ⟨fun _ _ _ _ _ _ h => h.elim⟩
theorem bad_dt : DTk K ca zx W (fun _ _ _ => False) (fun _ _ _ => False) := fun _ _ _ _ _ _ _ _ _ _ _ _ _ _ h => h.elim
theorem bad_de : DEk K ca zx W (fun _ _ _ => False) (fun _ _ _ => False) := fun _ _ _ _ _ _ _ _ _ _ _ _ _ _ h => h.elim
theorem inv_nil {es : List Expr} (h : chkEs N sc .nil es = true) : es = [] := by
  cases es with
  | nil => rfl
  | cons _ _ => simp [chkEs] at h
theorem inv_cons {m : E} {ms : Es} {es : List Expr} (h : chkEs N sc (.cons m ms) es = true) : ∃ x xs, es = x :: xs ∧ chkE N sc m x = true ∧ chkEs N sc ms xs = true := by
  cases es with
  | nil => simp [chkEs] at h
  | cons x xs => simp only [chkEs, Bool.and_eq_true] at h; exact ⟨_, _, rfl, h⟩
theorem inv_one {m : E} {es : List Expr} (h : chkEs N sc (.cons m .nil) es = true) : ∃ x, es = [x] ∧ chkE N sc m x = true := by
  obtain ⟨x, xs, rfl, h1, h2⟩ := inv_cons h
  obtain rfl := inv_nil h2
  exact ⟨_, rfl, h1⟩
theorem inv_two {m m2 : E} {ms : Es} {es : List Expr} (h : chkEs N sc (.cons m (.cons m2 ms)) es = true) : ∃ x y xs, es = x :: y :: xs ∧ chkE N sc m x = true ∧ chkEs N sc (.cons m2 ms) (y :: xs) = true := by
  obtain ⟨x, xs, rfl, h1, h2⟩ := inv_cons h
  obtain ⟨y, ys, rfl, _, _⟩ := inv_cons h2
  exact ⟨_, _, _, rfl, h1, h2⟩
theorem inv_c {m : E} {ifs : List Expr} (h : chkC N sc (.some m) ifs = true) : ∃ x, ifs = [x] ∧ chkE N sc m x = true := by
  cases ifs with
  | nil => simp [chkC] at h
  | cons x xs => cases xs with
    | nil => simp only [chkC] at h; exact ⟨_, rfl, h⟩
    | cons _ _ => simp [chkC] at h
theorem inv_rng1 {m : E} {tg e : Expr} (h : chkIt N sc (.range1 m) tg e = true) : ∃ p x q, e = .Call (.Name "range" p) [x] [] q ∧ glB sc "range" = true ∧ chkE N sc m x = true := by
  unfold chkIt at h
  split at h <;> first | (cases h; done) | skip
  all_goals simp only [reduceCtorEq, Dv.It.range1.injEq] at *
  all_goals simp only [Bool.and_eq_true, decide_eq_true_eq] at h
  obtain ⟨⟨rfl, h1⟩, h2⟩ := h
  subst ‹m = _›
  exact ⟨_, _, _, rfl, h1, h2⟩
theorem inv_rev {m : E} {tg e : Expr} (h : chkIt N sc (.rev m) tg e = true) : ∃ p x q, e = .Call (.Name "reversed" p) [x] [] q ∧ glB sc "reversed" = true ∧ chkE N sc m x = true := by
  unfold chkIt at h
  split at h <;> first | (cases h; done) | skip
  all_goals simp only [reduceCtorEq, Dv.It.rev.injEq] at *
  all_goals simp only [Bool.and_eq_true, decide_eq_true_eq] at h
  obtain ⟨⟨rfl, h1⟩, h2⟩ := h
  subst ‹m = _›
  exact ⟨_, _, _, rfl, h1, h2⟩
theorem inv_rng2 {m n : E} {tg e : Expr} (h : chkIt N sc (.range2 m n) tg e = true) : ∃ p x y q, e = .Call (.Name "range" p) [x, y] [] q ∧ glB sc "range" = true ∧ chkE N sc m x = true ∧ chkE N sc n y = true := by
  unfold chkIt at h
  split at h <;> first | (cases h; done) | skip
  all_goals simp only [reduceCtorEq, Dv.It.range2.injEq] at *
  all_goals simp only [Bool.and_eq_true, decide_eq_true_eq] at h
  obtain ⟨⟨rfl, h1⟩, h2⟩ := h
  obtain ⟨e1, e2⟩ := ‹m = _ ∧ _›
  subst e1 e2
  exact ⟨_, _, _, _, rfl, h1, h2⟩
theorem inv_rngW {m n : E} {tg e : Expr} (h : chkIt N sc (.rangeW m n) tg e = true) : ∃ p x y q, e = .Call (.Name "range" p) [x, y] [] q ∧ glB sc "range" = true ∧ chkE N sc m x = true ∧ chkE N sc n y = true := by
  unfold chkIt at h
  split at h <;> first | (cases h; done) | skip
  all_goals simp only [reduceCtorEq, Dv.It.rangeW.injEq] at *
  all_goals simp only [Bool.and_eq_true, decide_eq_true_eq] at h
  obtain ⟨⟨rfl, h1⟩, h2⟩ := h
  obtain ⟨e1, e2⟩ := ‹m = _ ∧ _›
  subst e1 e2
  exact ⟨_, _, _, _, rfl, h1, h2⟩
theorem inv_zip {m n : E} {tg e : Expr} (h : chkIt N sc (.zip m n) tg e = true) : ∃ es kk tp p x y q, tg = .Tuple es kk tp ∧ e = .Call (.Name "zip" p) [x, y] [] q ∧ glB sc "zip" = true ∧ chkE N sc m x = true ∧ chkE N sc n y = true := by
  unfold chkIt at h
  split at h <;> first | (cases h; done) | skip
  all_goals simp only [reduceCtorEq, Dv.It.zip.injEq] at *
  all_goals simp only [Bool.and_eq_true, decide_eq_true_eq] at h
  obtain ⟨⟨rfl, h1⟩, h2⟩ := h
  obtain ⟨e1, e2⟩ := ‹m = _ ∧ _›
  subst e1 e2
  exact ⟨_, _, _, _, _, _, _, rfl, rfl, h1, h2⟩
theorem dt_yes {C : Cc} : DT C W0 tYes (fun e Q _ => wpC .none e Q) := by
  intro G env σ H Q Qx Qv R hx hq h
  exact hq true H (Same.refl H) h
theorem dt_c {C : Cc} {m : E} {t : TT} (h : DT C W0 t (wpT m)) : DT C W0 t (fun e Q _ => wpC (.some m) e Q) := by
  intro G env σ H Q Qx Qv R hx hq hh
  exact h G env σ H Q (fun _ => False) Qv R (fun _ _ _ _ _ _ hf => hf.elim) hq hh
theorem isx_tru {i : Nat} {cs : List Str} {t : TT} (h : DTk K ca zx W t (fun env Q X => isxW env i cs fun b => truthW (.v .fro (.bl b)) Q)) : DTk K ca zx W t (fun env Q _ => isxW env i cs Q) := h
theorem pa_nms (c : Ctx X sc N ca zx L W) (E : ErrK X.K ca X.mg) : ∀ (ts : List Str) (zs : List Expr), (∀ t ∈ ts, t ∈ ca.l) → nmsB sc ts zs = true → PA X zs (tNms ca ts)
  | [], [], _, _ => pa_nil
  | [], _ :: _, _, h => by simp [nmsB] at h
  | _ :: _, [], _, h => by simp [nmsB] at h
  | t :: ts, z :: zs, hm, h => by
    cases z with
    | Name x p =>
      simp only [nmsB, Bool.and_eq_true, decide_eq_true_eq] at h
      obtain ⟨⟨rfl, h1⟩, h2⟩ := h
      obtain ⟨k1, k2, k3⟩ := gl_of c.hsc h1
      exact pa_cons (pe_glob k1 (E.nm t (hm t List.mem_cons_self)) rfl k2) (pa_nms c E ts zs (fun t ht => hm t (List.mem_cons_of_mem _ ht)) h2) rfl
    | _ => simp [nmsB] at h
theorem chkDc_len : ∀ {kvs : KvL} {ks : List (Option Expr)} {vs : List Expr}, chkDc kvs ks vs = true → ks.length = kvs.length ∧ vs.length = kvs.length ∧ ∀ k ∈ ks, k.isSome = true
  | [], [], [], _ => ⟨rfl, rfl, fun k h => by cases h⟩
  | (k, i) :: r, ks, vs, h => by
    unfold chkDc at h
    split at h
    · rename_i e; cases e
    · rename_i e
      cases e
      rw [Bool.and_eq_true] at h
      obtain ⟨h1, h2, h3⟩ := chkDc_len h.2
      refine ⟨by simp [h1], by simp [h2], fun k hk => ?_⟩
      rcases List.mem_cons.mp hk with rfl | hk
      · rfl
      · exact h3 k hk
    · cases h
theorem pps_dc {pos : Pos} : ∀ {kvs : KvL} {ks : List (Option Expr)} {vs : List Expr}, chkDc kvs ks vs = true → PPs X pos ks vs (dcTrs kvs)
  | [], [], [], _ => pps_nil
  | (k, i) :: r, ks, vs, h => by
    unfold chkDc at h
    split at h
    · rename_i e; cases e
    · rename_i e
      cases e
      rw [Bool.and_eq_true, Bool.and_eq_true, decide_eq_true_eq, decide_eq_true_eq] at h
      obtain ⟨⟨h1, h2⟩, h3⟩ := h
      subst h1 h2
      exact pps_cons pe_str pe_int (pps_dc h3)
    · cases h
/-! ### THE SOUNDNESS of expressions -/
mutual
theorem sndE : ∀ (m : E) {X : Cx} {sc : Scope} {L : Nat} {W : WX} {e : Expr}, Ctx X sc N ca zx L W → X.K = K → chkE N sc m e = true → OkE (kns X ca L) m → PE X e (rdE K ca zx W m) ∧ DEk K ca zx W (rdE K ca zx W m) (wpE m)
  | .var i, X, sc, L, W, e, c, hK, h, ok => by
    obtain ⟨x, p, rfl, h1, h2⟩ := inv_var h
    obtain ⟨n1, n2, n3⟩ := nm_of h1
    exact ⟨pe_var (by rw [c.hN]; exact n1) (by rw [c.hsc]; exact vis_of h2) n2 n3, fun C _ _ _ => de_var⟩
  | .int i, X, sc, L, W, e, c, hK, h, ok => by
    obtain ⟨k, p, rfl⟩ := inv_int h
    exact ⟨pe_int, fun C _ _ _ => de_c fun _ _ _ => repI⟩
  | .bl i, X, sc, L, W, e, c, hK, h, ok => by
    obtain ⟨k, p, rfl⟩ := inv_bl h
    exact ⟨pe_bl, fun C _ _ _ => de_c fun _ _ _ => repB⟩
  | .non, X, sc, L, W, e, c, hK, h, ok => by
    obtain ⟨k, p, rfl⟩ := inv_non h
    exact ⟨pe_non, fun C _ _ _ => de_c fun _ _ _ => repN⟩
  | .str i, X, sc, L, W, e, c, hK, h, ok => by
    obtain ⟨k, p, rfl⟩ := inv_str h
    exact ⟨pe_str, fun C _ _ _ => de_c fun _ _ _ => repS⟩
  | .glob x d, X, sc, L, W, e, c, hK, h, ok => by
    obtain ⟨p, rfl, h1⟩ := inv_glob h
    obtain ⟨g1, g2, g3⟩ := gl_of c.hsc h1
    obtain ⟨u, o1, o2, o3⟩ := ok
    subst hK
    exact ⟨pe_glob g1 o1 o2 g2, fun C z1 _ _ => de_c fun _ _ _ => o3 C z1 _ _ _ _⟩
  | .bin op a b, X, sc, L, W, e, c, hK, h, ok => by
    obtain ⟨x, y, p, rfl, h1, h2⟩ := inv_bin h
    have A := sndE a c hK h1 ok.1
    have B := sndE b c hK h2 ok.2
    refine ⟨?_, fun C z1 z2 z3 => by have A2 := A.2 C z1 z2 z3; have B2 := B.2 C z1 z2 z3; subst z1; exact de_op (opd_B op) A2 B2⟩
    have P := A.1
    have P2 := B.1
    subst hK
    exact pe_op (op_B op) P P2
  | .neg a, X, sc, L, W, e, c, hK, h, ok => by
    obtain ⟨x, p, rfl, h1⟩ := inv_neg h
    have A := sndE a c hK h1 ok
    exact ⟨pe_un un_neg A.1, fun C z1 z2 z3 => de_neg (A.2 C z1 z2 z3)⟩
  | .notE a, X, sc, L, W, e, c, hK, h, ok => by
    obtain ⟨x, p, rfl, h1⟩ := inv_notE h
    have A := sndE a c hK h1 ok
    refine ⟨?_, de_not_k A.2⟩
    have P := A.1
    subst hK
    exact pe_notT P
  | .andE es, X, sc, L, W, e, c, hK, h, ok => by
    obtain ⟨xs, p, rfl, h1⟩ := inv_andE h
    exact sndAE es c hK h1 ok p
  | .orE es, X, sc, L, W, e, c, hK, h, ok => by
    obtain ⟨xs, p, rfl, h1⟩ := inv_orE h
    exact sndOE es c hK h1 ok p
  | .cmp op a b, X, sc, L, W, e, c, hK, h, ok => by
    obtain ⟨x, y, p, rfl, h0, h1, h2⟩ := inv_cmp h
    have A := sndE a c hK h1 ok.1
    have B := sndE b c hK h2 ok.2
    refine ⟨?_, fun C z1 z2 z3 => by have A2 := A.2 C z1 z2 z3; have B2 := B.2 C z1 z2 z3; subst z1; exact de_cmp A2 B2⟩
    have P := A.1
    have P2 := B.1
    subst hK
    exact pe_cmpR (op_C c.un op) P P2 (noMark h0 _)
  | .chain o p a b m, X, sc, L, W, e, c, hK, h, ok => by
    obtain ⟨x, y, z, q, rfl, n1, n2, h1, h2, h3⟩ := inv_chain h
    have A := sndE a c hK h1 ok.1
    have B := sndE b c hK h2 ok.2.1
    have D := sndE m c hK h3 ok.2.2
    refine ⟨?_, fun C z1 z2 z3 => by have A2 := A.2 C z1 z2 z3; have B2 := B.2 C z1 z2 z3; have D2 := D.2 C z1 z2 z3; subst z1; exact de_chain A2 B2 D2⟩
    have P := A.1
    have P2 := B.1
    have P3 := D.1
    subst hK
    exact pe_chain (op_C c.un o) (op_C c.un p) P P2 P3 (noMark n2 _)
  | .ite m a b, X, sc, L, W, e, c, hK, h, ok => by
    obtain ⟨z, x, y, p, rfl, h0, h1, h2⟩ := inv_ite h
    have M := sndT m c hK h0 ok.1
    have A := sndE a c hK h1 ok.2.1
    have B := sndE b c hK h2 ok.2.2
    exact ⟨pe_ifExp M.1 A.1 B.1, fun C z1 z2 z3 => de_ite (M.2 C z1 z2 z3) (A.2 C z1 z2 z3) (B.2 C z1 z2 z3)⟩
  | .tup es, X, sc, L, W, e, c, hK, h, ok => by
    obtain ⟨xs, k, p, rfl, h1⟩ := inv_tup h
    have A := sndEs es c hK h1 ok
    exact ⟨pe_tup A.1, fun C z1 z2 z3 => de_tup (A.2 C z1 z2 z3)⟩
  | .lst es, X, sc, L, W, e, c, hK, h, ok => by
    obtain ⟨xs, p, rfl, h1⟩ := inv_lst h
    have A := sndEs es c hK h1 ok
    exact ⟨pe_lst A.1, fun C z1 z2 z3 => de_lst (A.2 C z1 z2 z3)⟩
  | .dic0, X, sc, L, W, e, c, hK, h, ok => by
    obtain ⟨p, rfl⟩ := inv_dic0 h
    exact ⟨pe_dnewK, fun C _ _ _ => de_dic0⟩
  | .dicC kvs, X, sc, L, W, e, c, hK, h, ok => by
    obtain ⟨ks, vs, p, rfl, h1, h2, h3⟩ := inv_dicC h
    obtain ⟨e1, e2, e3⟩ := chkDc_len h3
    refine ⟨pe_disp (pps_dc h3) (List.all_eq_true.mpr e3) (e1.trans e2.symm) (fun z => h1 (by rw [z] at e1; exact List.length_eq_zero_iff.mp e1.symm)) (by omega), fun C _ _ _ => de_dicC⟩
  | .idx a i, X, sc, L, W, e, c, hK, h, ok => by
    obtain ⟨x, y, p, rfl, h0, h1, h2⟩ := inv_idx h
    have A := sndE a c hK h1 ok.1
    have B := sndE i c hK h2 ok.2
    refine ⟨?_, fun C z1 z2 z3 => by have A2 := A.2 C z1 z2 z3; have B2 := B.2 C z1 z2 z3; subst z1; exact de_op opd_ix A2 B2⟩
    have P := A.1
    have P2 := B.1
    subst hK
    exact pe_ix (ix_D (show _ < _ by have := c.un; omega)) P P2 (plainIx h0)
  | .sli a lo hi, X, sc, L, W, e, c, hK, h, ok => by
    obtain ⟨x, l, u, p, q, rfl, h0, h1, h2⟩ := inv_sli h
    have A := sndE a c hK h0 ok.1
    have B := sndEo lo c hK h1 ok.2.1
    have D := sndEo hi c hK h2 ok.2.2
    refine ⟨?_, fun C z1 z2 z3 => by have A2 := A.2 C z1 z2 z3; have B2 := B.2 C z1 z2 z3; have D2 := D.2 C z1 z2 z3; subst z1; exact de_sli A2 B2 D2⟩
    have P := A.1
    have P2 := B.1
    have P3 := D.1
    subst hK
    exact pe_slice sl_D P P2 P3
  | .revs a, X, sc, L, W, e, c, hK, h, ok => by
    obtain ⟨x, k, p1, p2, p3, p, rfl, h1⟩ := inv_revs h
    have A := sndE a c hK h1 ok
    refine ⟨?_, fun C z1 z2 z3 => by have A2 := A.2 C z1 z2 z3; subst z1; exact de_rev A2⟩
    have P := A.1
    subst hK
    exact pe_revL P
  | .call f sp es, X, sc, L, W, e, c, hK, h, ok => by
    obtain ⟨hh, p, x, xs, q, rfl, h0, h1⟩ := inv_call h
    obtain ⟨⟨fa, fd, ps, o1, o2, o3, o4, o5⟩, ok2⟩ := ok
    have A := sndEs es c hK h1 ok2
    obtain ⟨g1, g2, g3⟩ := gl_of c.hsc h0
    refine ⟨?_, de_call_k A.2⟩
    have P := A.1
    subst hK
    obtain ⟨m, ms, rfl⟩ : ∃ m ms, es = .cons m ms := by cases es with | nil => simp [chkEs] at h1 | cons m ms => exact ⟨_, _, rfl⟩
    have h1' := h1
    simp only [chkEs, Bool.and_eq_true] at h1'
    exact pe_callS o5 (c.room hh) g1 o2 o3 o4 (fun σ => passAt c.tk σ) P g2 (chk_notStar h1'.1 _ _) (chks_plain h1'.2 _ _)
  | .bi f es, X, sc, L, W, e, c, hK, h, ok => by
    obtain ⟨hh, p, x, xs, q, rfl, h0, h9, h1⟩ := inv_bi h
    have A := sndEs es c hK h1 ok.2
    obtain ⟨g1, g2, g3⟩ := gl_of c.hsc h0
    refine ⟨?_, de_bi_k A.2⟩
    have P := A.1
    subst hK
    obtain ⟨m, ms, rfl⟩ : ∃ m ms, es = .cons m ms := by cases es with | nil => simp [chkEs] at h1 | cons m ms => exact ⟨_, _, rfl⟩
    have h1' := h1
    simp only [chkEs, Bool.and_eq_true] at h1'
    have fr : X.mg (biN f) = none := ok.1
    have hb := bi_boot f h9
    cases ht : biTy f with
    | true =>
        rw [ht, if_pos rfl] at hb
        exact pe_callTy (call_T (c.calm hh) f ht) g1 fr hb P g3 g2 (chk_notStar h1'.1 _ _) (chks_plain h1'.2 _ _)
    | false =>
        rw [ht, if_neg Bool.false_ne_true] at hb
        exact pe_callB (call_B (c.calm hh) f ht) g1 fr hb P g3 g2 (chk_notStar h1'.1 _ _) (chks_plain h1'.2 _ _)
  | .isi a t, X, sc, L, W, e, c, hK, h, ok => by
    obtain ⟨p, y, q, r, rfl, h0, h1, h2, h3⟩ := inv_isi h
    have A := sndE a c hK h3 ok.2.2
    obtain ⟨g1, g2, g3⟩ := gl_of c.hsc h0
    obtain ⟨k1, k2, k3⟩ := gl_of c.hsc h1
    refine ⟨?_, de_isi_k h2 A.2⟩
    have P := A.1
    subst hK
    have hb : bootBuiltins (t : Str) = some (.type t) := by
      rcases ty_of h2 with rfl | rfl | rfl | rfl | rfl | rfl <;> decide +kernel
    have fr1 : X.mg "isinstance" = none := ok.1
    have fr2 : X.mg t = none := ok.2.1
    exact pe_callB call_isi g1 fr1 (by decide +kernel) (pa_cons P (pa_cons (pe_bltn k1 fr2 hb rfl k3 k2) pa_nil) (chk_notStar h3 _ _)) g3 g2 (chk_notStar h3 _ _) rfl
  | .comp t it cd m, X, sc, L, W, e, c, hK, h, ok => by
    obtain ⟨hh, x, tg, itx, ifs, scope, p, rfl, h0, h1, h2, h3, h4, h5, h6⟩ := inv_comp h
    have hblk := blkOk_by h1
    have IT := sndIt it c hK h3 ok.1
    have dt : DTk K ca zx W0 (rdC K ca zx cd) (fun e Q _ => wpC cd e Q) := by
      have cb := c.blk (s := X.s_0) (H := X.H_0) (cl := []) (Cc := 0) (fp := []) hh hblk.kind
      exact (sndC cd cb hK h5 ok.2.1).2
    have de : DEk K ca zx W0 (rdE K ca zx W0 m) (wpE m) := by
      have cb := c.blk (s := X.s_0) (H := X.H_0) (cl := []) (Cc := 0) (fp := []) hh hblk.kind
      exact (sndE m cb hK h6 ok.2.2).2
    refine ⟨?_, fun C z1 z2 z3 => ?_⟩
    · have P := IT.1
      have hb2 : BlkOk X.N X.env.scope scope (tgO t tg) := by rw [c.hN, c.hsc]; exact hblk
      have PC := fun s H Cc cl fp => (sndC cd (c.blk (s := s) (H := H) (cl := cl) (Cc := Cc) (fp := fp) hh hblk.kind) hK h5 ok.2.1).1
      have PM := fun s H Cc cl fp => (sndE m (c.blk (s := s) (H := H) (cl := cl) (Cc := Cc) (fp := fp) hh hblk.kind) hK h6 ok.2.2).1
      subst hK
      have := pe_lc (pos := p) (c.calm hh) (by rw [c.hN]; exact c.nd) P hb2 (fun s H Cc cl fp => pg_of (b := false) (c.blk hh hblk.kind) (.inl (c.calm hh)) (fun z => by cases z) rfl h4) PC PM (noFold h0 _)
      rw [h2] at this
      exact this
    · have D1 := (IT.2 C z1 z2 z3).2
      subst z1
      exact de_comp D1 (fun C' y1 y2 y3 => dt C' y1 (y2.trans z2) (by rw [y3]; exact z3)) (fun C' y1 y2 y3 => de C' y1 (y2.trans z2) (by rw [y3]; exact z3))
  | .isx i t, X, sc, L, W, e, c, hK, h, ok => by
    obtain ⟨p, y, q, r, z, rfl, h0, h1, h2⟩ := inv_isx h
    obtain ⟨n1, n2, n3⟩ := nm_of h1.1
    obtain ⟨g1, g2, g3⟩ := gl_of c.hsc h0
    obtain ⟨k1, k2, k3⟩ := gl_of c.hsc h2
    have V : PE X (.Name y q) (tVar i) := pe_var (by rw [c.hN]; exact n1) (by rw [c.hsc]; exact vis_of h1.2) n2 n3
    have T : PE X (.Name t r) (tC (clV ca t)) := by
      by_cases ht : t ∈ ca.l
      · have e : clV ca t = .ref (ca t) := by unfold clV; rw [if_pos ht]
        rw [e]
        exact pe_glob k1 (ok.1.nm t ht) rfl k2
      · obtain ⟨rfl, hm, _⟩ := ok.2.2.resolve_left ht
        have e : clV ca ("ValueError" : Str) = .ty "ValueError" := by unfold clV; rw [if_neg ht]
        rw [e]
        exact pe_bltn k1 hm (by decide +kernel) rfl k3 k2
    refine ⟨pe_callB (call_isZ ok.1 c.hz) g1 ok.2.1 (by decide +kernel) (pa_cons V (pa_cons T pa_nil rfl) rfl) g3 g2 rfl rfl, fun C z1 z2 z3 => de_isx (ok.2.2.imp id fun z => z.1) z3⟩
  | .isxs i ts, X, sc, L, W, e, c, hK, h, ok => by
    obtain ⟨p, y, q, zs, k, r, z, rfl, h0, h1, hl, h2⟩ := inv_isxs h
    obtain ⟨n1, n2, n3⟩ := nm_of h1.1
    obtain ⟨g1, g2, g3⟩ := gl_of c.hsc h0
    have V : PE X (.Name y q) (tVar i) := pe_var (by rw [c.hN]; exact n1) (by rw [c.hsc]; exact vis_of h1.2) n2 n3
    have hm : ∀ t ∈ ts, t ∈ ca.l := fun t ht => (ok.2.2 t ht).1.resolve_right fun z => (ok.2.2 t ht).2 z.1
    refine ⟨pe_callB (call_isZT ok.1 c.hz) g1 ok.2.1 (by decide +kernel) (pa_cons V (pa_cons (pe_tup (pa_nms c ok.1 ts zs hm h2)) pa_nil rfl) rfl) g3 g2 rfl rfl, fun C z1 z2 z3 => de_isxs hm hl z3⟩
  | .meth m a es, X, sc, L, W, e, c, hK, h, ok => by
    obtain ⟨b, o, ap, y, cp, rfl, rfl, hr, hb, h1, h2⟩ := inv_meth h
    have A := sndE a c hK h1 ok.1
    have B := sndEs (.cons b .nil) c hK (es := [y]) (by simp only [chkEs, h2, Bool.and_self]) ok.2
    refine ⟨?_, fun C z1 z2 z3 => by have A2 := A.2 C z1 z2 z3; have B2 := B.2 C z1 z2 z3; subst z1; exact de_meth A2 B2⟩
    have P := A.1
    have P2 := B.1
    subst hK
    have s1 : starEach [y] X.env = [(false, eval y X.env)] := chk_notStar h2 _ _
    have base : attributeBase o (meN m) X.env (eval o X.env) = eval o X.env := by cases o <;> first | rfl | cases hr
    have few : ((backTo cp (starEach [y] X.env)).all (fun x => !x.1) && (backToKw cp (keywordEach [] X.env)).all (fun x => x.1.isSome)
      && decide (([y] : List Expr).length + ([] : List Keyword).length + (if ([] : List Keyword).isEmpty then 0 else 1) < 30)) = true := by rw [s1]; rfl
    cases m with
    | count => exact pe_bm PySem.F.plainAttrs_list PySem.F.slot_list_count PySem.F.type_list_count mt_countF P P2 base few hb s1 rfl
    | index => exact pe_bm PySem.F.plainAttrs_list PySem.F.slot_list_index PySem.F.type_list_index mt_index P P2 base few hb s1 rfl
    | split => exact pe_bm PySem.F.plainAttrs_str PySem.F.slot_str_split PySem.F.type_str_split mt_split P P2 base few hb s1 rfl
    | join => exact pe_bm PySem.F.plainAttrs_str PySem.F.slot_str_join PySem.F.type_str_join mt_join P P2 base few hb s1 rfl
    | find => exact pe_bm PySem.F.plainAttrs_str PySem.F.slot_str_find PySem.F.type_str_find mt_find P P2 base few hb s1 rfl
  | .fld i f, X, sc, L, W, e, c, hK, h, ok => by
    obtain ⟨y, q, r, rfl, hf, h1⟩ := inv_fld h
    obtain ⟨n1, n2, n3⟩ := nm_of h1.1
    exact ⟨pe_fZ ok c.hz hf (pe_var (by rw [c.hN]; exact n1) (by rw [c.hsc]; exact vis_of h1.2) n2 n3), fun C z1 z2 z3 => de_fld z3⟩
  | .lset a, X, sc, L, W, e, c, hK, h, ok => by
    obtain ⟨hh, p, q, z, r, s, rfl, h0, h1, h2⟩ := inv_lset h
    have A := sndE a c hK h2 ok.2.2
    obtain ⟨g1, g2, g3⟩ := gl_of c.hsc h0
    obtain ⟨k1, k2, k3⟩ := gl_of c.hsc h1
    refine ⟨?_, fun C z1 z2 z3 => by have A2 := A.2 C z1 z2 z3; subst z1; exact de_lset A2⟩
    have P := A.1
    subst hK
    exact pe_lenSetG (c.calm hh) g1 ok.1 k1 ok.2.1 P (chk_notStar h2 _ _)
  | .rgv t a, X, sc, L, W, e, c, hK, h, ok => by
    obtain ⟨hh, p, q, z, r, s, rfl, h0, h1, h2⟩ := inv_rgv h
    have A := sndE a c hK h2 ok.2.2
    obtain ⟨g1, g2, g3⟩ := gl_of c.hsc h0
    obtain ⟨k1, k2, k3⟩ := gl_of c.hsc h1
    have R := prg_1 (p := q) (pos := r) k1 ok.1 A.1 (chk_notStar h2 _ _)
    refine ⟨?_, fun C z1 z2 z3 => de_rgv (A.2 C z1 z2 z3)⟩
    cases t with
    | true => exact pe_tupRg (c.calm hh) g1 ok.2.1 R rfl
    | false => exact pe_listRg (c.calm hh) g1 ok.2.1 R rfl
  | .rgv2 t a b, X, sc, L, W, e, c, hK, h, ok => by
    obtain ⟨hh, p, q, z, z2, r, s, rfl, h0, h1, h2, h3⟩ := inv_rgv2 h
    have A := sndE a c hK h2 ok.2.2.1
    have B := sndE b c hK h3 ok.2.2.2
    obtain ⟨g1, g2, g3⟩ := gl_of c.hsc h0
    obtain ⟨k1, k2, k3⟩ := gl_of c.hsc h1
    have e2 : starEach [z2] X.env = [(false, eval z2 X.env)] := chk_notStar h3 _ _
    have R := prg_2 (p := q) (pos := r) k1 ok.1 A.1 B.1 (chk_notStar h2 _ _) (chk_notStar h3 _ _) (by rw [e2]; rfl)
    refine ⟨?_, fun C z1 z2 z3 => de_rgv2 (A.2 C z1 z2 z3) (B.2 C z1 z2 z3)⟩
    cases t with
    | true => exact pe_tupRg (c.calm hh) g1 ok.2.1 R rfl
    | false => exact pe_listRg (c.calm hh) g1 ok.2.1 R rfl
theorem sndT : ∀ (m : E) {X : Cx} {sc : Scope} {L : Nat} {W : WX} {e : Expr}, Ctx X sc N ca zx L W → X.K = K → chkE N sc m e = true → OkE (kns X ca L) m → PT X e (rdT K ca zx W m) ∧ DTk K ca zx W (rdT K ca zx W m) (wpT m)
  | .var i, X, sc, L, W, e, c, hK, h, ok => by
    have A := sndE (.var i) c hK h ok
    obtain ⟨x, p, rfl, h1, h2⟩ := inv_var h
    exact ⟨pt_tru A.1 (fun _ => rfl) hK, de_tru_k A.2⟩
  | .bl i, X, sc, L, W, e, c, hK, h, ok => by
    have A := sndE (.bl i) c hK h ok
    obtain ⟨x, p, rfl⟩ := inv_bl h
    exact ⟨pt_tru A.1 (fun _ => rfl) hK, de_tru_k A.2⟩
  | .call f sp es, X, sc, L, W, e, c, hK, h, ok => by
    have A := sndE (.call f sp es) c hK h ok
    obtain ⟨_, p, x, xs, q, rfl, h0, h1⟩ := inv_call h
    exact ⟨pt_tru A.1 (fun _ => rfl) hK, de_tru_k A.2⟩
  | .bi f es, X, sc, L, W, e, c, hK, h, ok => by
    have A := sndE (.bi f es) c hK h ok
    obtain ⟨_, p, x, xs, q, rfl, h0, h9, h1⟩ := inv_bi h
    exact ⟨pt_tru A.1 (fun _ => rfl) hK, de_tru_k A.2⟩
  | .isi a t, X, sc, L, W, e, c, hK, h, ok => by
    have A := sndE (.isi a t) c hK h ok
    obtain ⟨p, y, q, r, rfl, h0, h1, h2, h3⟩ := inv_isi h
    exact ⟨pt_tru A.1 (fun _ => rfl) hK, de_tru_k A.2⟩
  | .idx a i, X, sc, L, W, e, c, hK, h, ok => by
    have A := sndE (.idx a i) c hK h ok
    obtain ⟨x, y, p, rfl, h0, h1, h2⟩ := inv_idx h
    exact ⟨pt_tru A.1 (fun _ => rfl) hK, de_tru_k A.2⟩
  | .cmp op a b, X, sc, L, W, e, c, hK, h, ok => by
    obtain ⟨x, y, p, rfl, h0, h1, h2⟩ := inv_cmp h
    have A := sndE a c hK h1 ok.1
    have B := sndE b c hK h2 ok.2
    refine ⟨?_, fun C z1 z2 z3 => by have A2 := A.2 C z1 z2 z3; have B2 := B.2 C z1 z2 z3; subst z1; exact dt_cmp A2 B2⟩
    have P := A.1
    have P2 := B.1
    subst hK
    exact pt_cmpR (op_C c.un op) P P2 (noMark h0 _)
  | .chain o p a b m, X, sc, L, W, e, c, hK, h, ok => by
    obtain ⟨x, y, z, q, rfl, n1, n2, h1, h2, h3⟩ := inv_chain h
    have A := sndE a c hK h1 ok.1
    have B := sndE b c hK h2 ok.2.1
    have D := sndE m c hK h3 ok.2.2
    refine ⟨?_, fun C z1 z2 z3 => by have A2 := A.2 C z1 z2 z3; have B2 := B.2 C z1 z2 z3; have D2 := D.2 C z1 z2 z3; subst z1; exact dt_chain A2 B2 D2⟩
    have P := A.1
    have P2 := B.1
    have P3 := D.1
    subst hK
    exact pt_chain (op_C c.un o) (op_C c.un p) P P2 P3 (noMark n2 _)
  | .notE a, X, sc, L, W, e, c, hK, h, ok => by
    obtain ⟨x, p, rfl, h1⟩ := inv_notE h
    have A := sndT a c hK h1 ok
    exact ⟨pt_not A.1, fun C z1 z2 z3 => dt_not (A.2 C z1 z2 z3)⟩
  | .andE es, X, sc, L, W, e, c, hK, h, ok => by
    obtain ⟨xs, p, rfl, h1⟩ := inv_andE h
    have A := sndAT es c hK h1 ok
    exact ⟨(A.1 p).pt, A.2⟩
  | .orE es, X, sc, L, W, e, c, hK, h, ok => by
    obtain ⟨xs, p, rfl, h1⟩ := inv_orE h
    have A := sndOT es c hK h1 ok
    exact ⟨(A.1 p).pt, A.2⟩
  | .int _, X, sc, L, W, e, c, hK, h, ok => ⟨bad_t, bad_dt⟩
  | .non, X, sc, L, W, e, c, hK, h, ok => ⟨bad_t, bad_dt⟩
  | .str _, X, sc, L, W, e, c, hK, h, ok => ⟨bad_t, bad_dt⟩
  | .glob _ _, X, sc, L, W, e, c, hK, h, ok => ⟨bad_t, bad_dt⟩
  | .bin _ _ _, X, sc, L, W, e, c, hK, h, ok => ⟨bad_t, bad_dt⟩
  | .neg _, X, sc, L, W, e, c, hK, h, ok => ⟨bad_t, bad_dt⟩
  | .ite _ _ _, X, sc, L, W, e, c, hK, h, ok => ⟨bad_t, bad_dt⟩
  | .tup _, X, sc, L, W, e, c, hK, h, ok => ⟨bad_t, bad_dt⟩
  | .lst _, X, sc, L, W, e, c, hK, h, ok => ⟨bad_t, bad_dt⟩
  | .dic0, X, sc, L, W, e, c, hK, h, ok => ⟨bad_t, bad_dt⟩
  | .dicC _, X, sc, L, W, e, c, hK, h, ok => ⟨bad_t, bad_dt⟩
  | .sli _ _ _, X, sc, L, W, e, c, hK, h, ok => ⟨bad_t, bad_dt⟩
  | .revs _, X, sc, L, W, e, c, hK, h, ok => ⟨bad_t, bad_dt⟩
  | .comp _ _ _ _, X, sc, L, W, e, c, hK, h, ok => ⟨bad_t, bad_dt⟩
  | .isx i t, X, sc, L, W, e, c, hK, h, ok => by
    have A := sndE (.isx i t) c hK h ok
    obtain ⟨p, y, q, r, z, rfl, h0, h1, h2⟩ := inv_isx h
    exact ⟨pt_tru A.1 (fun _ => rfl) hK, isx_tru (de_tru_k A.2)⟩
  | .isxs i ts, X, sc, L, W, e, c, hK, h, ok => by
    have A := sndE (.isxs i ts) c hK h ok
    obtain ⟨p, y, q, zs, k, r, z, rfl, h0, h1, hl, h2⟩ := inv_isxs h
    exact ⟨pt_tru A.1 (fun _ => rfl) hK, isx_tru (de_tru_k A.2)⟩
  | .lset _, X, sc, L, W, e, c, hK, h, ok => ⟨bad_t, bad_dt⟩
  | .rgv _ _, X, sc, L, W, e, c, hK, h, ok => ⟨bad_t, bad_dt⟩
  | .rgv2 _ _ _, X, sc, L, W, e, c, hK, h, ok => ⟨bad_t, bad_dt⟩
  | .meth _ _ _, X, sc, L, W, e, c, hK, h, ok => ⟨bad_t, bad_dt⟩
  | .fld _ _, X, sc, L, W, e, c, hK, h, ok => ⟨bad_t, bad_dt⟩
theorem sndAE : ∀ (ms : Es) {X : Cx} {sc : Scope} {L : Nat} {W : WX} {es : List Expr}, Ctx X sc N ca zx L W → X.K = K → chkEs N sc ms es = true → OkEs (kns X ca L) ms → ∀ p, PE X (.BoolOp .And es p) (rdAE K ca zx W ms) ∧ DEk K ca zx W (rdAE K ca zx W ms) (wpAE ms)
  | .nil, X, sc, L, W, es, c, hK, h, ok, p => ⟨bad_e, bad_de⟩
  | .cons m .nil, X, sc, L, W, es, c, hK, h, ok, p => by
    obtain ⟨x, rfl, h1⟩ := inv_one h
    have A := sndE m c hK h1 ok.1
    exact ⟨pe_one A.1, A.2⟩
  | .cons m (.cons m2 ms), X, sc, L, W, es, c, hK, h, ok, p => by
    obtain ⟨x, y, xs, rfl, h1, h2⟩ := inv_two h
    have A := sndE m c hK h1 ok.1
    have B := sndAE (.cons m2 ms) c hK h2 ok.2 p
    exact ⟨pe_and A.1 B.1, fun C z1 z2 z3 => de_and (A.2 C z1 z2 z3) (B.2 C z1 z2 z3)⟩
theorem sndOE : ∀ (ms : Es) {X : Cx} {sc : Scope} {L : Nat} {W : WX} {es : List Expr}, Ctx X sc N ca zx L W → X.K = K → chkEs N sc ms es = true → OkEs (kns X ca L) ms → ∀ p, PE X (.BoolOp .Or es p) (rdOE K ca zx W ms) ∧ DEk K ca zx W (rdOE K ca zx W ms) (wpOE ms)
  | .nil, X, sc, L, W, es, c, hK, h, ok, p => ⟨bad_e, bad_de⟩
  | .cons m .nil, X, sc, L, W, es, c, hK, h, ok, p => by
    obtain ⟨x, rfl, h1⟩ := inv_one h
    have A := sndE m c hK h1 ok.1
    exact ⟨pe_one A.1, A.2⟩
  | .cons m (.cons m2 ms), X, sc, L, W, es, c, hK, h, ok, p => by
    obtain ⟨x, y, xs, rfl, h1, h2⟩ := inv_two h
    have A := sndE m c hK h1 ok.1
    have B := sndOE (.cons m2 ms) c hK h2 ok.2 p
    exact ⟨pe_or A.1 B.1, fun C z1 z2 z3 => de_or (A.2 C z1 z2 z3) (B.2 C z1 z2 z3)⟩
theorem sndAT : ∀ (ms : Es) {X : Cx} {sc : Scope} {L : Nat} {W : WX} {es : List Expr}, Ctx X sc N ca zx L W → X.K = K → chkEs N sc ms es = true → OkEs (kns X ca L) ms → (∀ p, PW X (.BoolOp .And es p) (rdAT K ca zx W ms)) ∧ DTk K ca zx W (rdAT K ca zx W ms) (wpAT ms)
  | .nil, X, sc, L, W, es, c, hK, h, ok => ⟨fun _ => bad_w, bad_dt⟩
  | .cons m .nil, X, sc, L, W, es, c, hK, h, ok => by
    obtain ⟨x, rfl, h1⟩ := inv_one h
    have A := sndT m c hK h1 ok.1
    exact ⟨fun p => pw_and1 A.1, A.2⟩
  | .cons m (.cons m2 ms), X, sc, L, W, es, c, hK, h, ok => by
    obtain ⟨x, y, xs, rfl, h1, h2⟩ := inv_two h
    have A := sndT m c hK h1 ok.1
    have B := sndAT (.cons m2 ms) c hK h2 ok.2
    exact ⟨fun p => pw_and A.1 (B.1 p), fun C z1 z2 z3 => dt_and (A.2 C z1 z2 z3) (B.2 C z1 z2 z3)⟩
theorem sndOT : ∀ (ms : Es) {X : Cx} {sc : Scope} {L : Nat} {W : WX} {es : List Expr}, Ctx X sc N ca zx L W → X.K = K → chkEs N sc ms es = true → OkEs (kns X ca L) ms → (∀ p, PW X (.BoolOp .Or es p) (rdOT K ca zx W ms)) ∧ DTk K ca zx W (rdOT K ca zx W ms) (wpOT ms)
  | .nil, X, sc, L, W, es, c, hK, h, ok => ⟨fun _ => bad_w, bad_dt⟩
  | .cons m .nil, X, sc, L, W, es, c, hK, h, ok => by
    obtain ⟨x, rfl, h1⟩ := inv_one h
    have A := sndT m c hK h1 ok.1
    exact ⟨fun p => pw_or1 A.1, A.2⟩
  | .cons m (.cons m2 ms), X, sc, L, W, es, c, hK, h, ok => by
    obtain ⟨x, y, xs, rfl, h1, h2⟩ := inv_two h
    have A := sndT m c hK h1 ok.1
    have B := sndOT (.cons m2 ms) c hK h2 ok.2
    exact ⟨fun p => pw_or A.1 (B.1 p), fun C z1 z2 z3 => dt_or (A.2 C z1 z2 z3) (B.2 C z1 z2 z3)⟩
theorem sndEs : ∀ (ms : Es) {X : Cx} {sc : Scope} {L : Nat} {W : WX} {es : List Expr}, Ctx X sc N ca zx L W → X.K = K → chkEs N sc ms es = true → OkEs (kns X ca L) ms → PA X es (rdEs K ca zx W ms) ∧ DAk K ca zx W ms.len (rdEs K ca zx W ms) (wpEs ms)
  | .nil, X, sc, L, W, es, c, hK, h, ok => by
    obtain rfl := inv_nil h
    exact ⟨pa_nil, fun C _ _ _ => da_nil⟩
  | .cons m ms, X, sc, L, W, es, c, hK, h, ok => by
    obtain ⟨x, xs, rfl, h1, h2⟩ := inv_cons h
    have A := sndE m c hK h1 ok.1
    have B := sndEs ms c hK h2 ok.2
    exact ⟨pa_cons A.1 B.1 (chk_notStar h1 _ _), fun C z1 z2 z3 => da_cons (A.2 C z1 z2 z3) (B.2 C z1 z2 z3)⟩
theorem sndEo : ∀ (ms : Eo) {X : Cx} {sc : Scope} {L : Nat} {W : WX} {o : Option Expr}, Ctx X sc N ca zx L W → X.K = K → chkEo N sc ms o = true → OkEo (kns X ca L) ms → PO X o (rdEo K ca zx W ms) ∧ ∀ C : Cc, C.K = K → C.ca = ca → (∀ a d c, C.Z a d c → zx a d c) → DO C W (rdEo K ca zx W ms) (wpEo ms)
  | .none, X, sc, L, W, o, c, hK, h, ok => by
    cases o with
    | none => exact ⟨po_none, fun C _ _ _ => do_none⟩
    | some _ => simp [chkEo] at h
  | .some m, X, sc, L, W, o, c, hK, h, ok => by
    cases o with
    | none => simp [chkEo] at h
    | some x =>
      simp only [chkEo] at h
      have A := sndE m c hK h ok
      exact ⟨po_some A.1, fun C z1 z2 z3 => do_some (A.2 C z1 z2 z3)⟩
theorem sndC : ∀ (ms : Eo) {X : Cx} {sc : Scope} {L : Nat} {ifs : List Expr}, Ctx X sc N ca zx L W0 → X.K = K → chkC N sc ms ifs = true → OkEo (kns X ca L) ms → PTs X ifs (rdC K ca zx ms) ∧ DTk K ca zx W0 (rdC K ca zx ms) (fun e Q _ => wpC ms e Q)
  | .none, X, sc, L, ifs, c, hK, h, ok => by
    cases ifs with
    | nil => exact ⟨pts_nil, fun C _ _ _ => dt_yes⟩
    | cons _ _ => simp [chkC] at h
  | .some m, X, sc, L, ifs, c, hK, h, ok => by
    obtain ⟨x, rfl, h1⟩ := inv_c h
    have A := sndT m c hK h1 ok
    exact ⟨pts_one A.1, fun C z1 z2 z3 => dt_c (A.2 C z1 z2 z3)⟩
theorem sndIt : ∀ (it : Dv.It) {X : Cx} {sc : Scope} {L : Nat} {W : WX} {tg e : Expr}, Ctx X sc N ca zx L W → X.K = K → chkIt N sc it tg e = true → OkIt (kns X ca L) it → PI X tg e (rdIt K ca zx W it) ∧ ∀ C : Cc, C.K = K → C.ca = ca → (∀ a d c, C.Z a d c → zx a d c) → DI C W (rdIt K ca zx W it) (wpIt it) ∧ DIc C W (rdIt K ca zx W it) (wpItC it)
  | .seq m, X, sc, L, W, tg, e, c, hK, h, ok => by
    simp only [chkIt] at h
    have A := sndE m c hK h ok
    refine ⟨?_, fun C z1 z2 z3 => by have A2 := A.2 C z1 z2 z3; subst z1; exact ⟨di_seq A2, dic_seq A2⟩⟩
    have P := A.1
    subst hK
    exact pi_seq P
  | .range1 m, X, sc, L, W, tg, e, c, hK, h, ok => by
    obtain ⟨p, x, q, rfl, h0, h1⟩ := inv_rng1 h
    have A := sndE m c hK h1 ok.2
    obtain ⟨g1, g2, g3⟩ := gl_of c.hsc h0
    have e1 : starEach [x] X.env = [(false, eval x X.env)] := chk_notStar h1 _ _
    exact ⟨pi_range1 g1 ok.1 (pa_cons A.1 pa_nil e1) e1, fun C z1 z2 z3 => ⟨di_range1 (A.2 C z1 z2 z3), dic_range1 (A.2 C z1 z2 z3)⟩⟩
  | .range2 m n, X, sc, L, W, tg, e, c, hK, h, ok => by
    obtain ⟨p, x, y, q, rfl, h0, h1, h2⟩ := inv_rng2 h
    have A := sndE m c hK h1 ok.2.1
    have B := sndE n c hK h2 ok.2.2
    obtain ⟨g1, g2, g3⟩ := gl_of c.hsc h0
    have e2 : starEach [y] X.env = [(false, eval y X.env)] := chk_notStar h2 _ _
    have e1 : starEach [x, y] X.env = (false, eval x X.env) :: starEach [y] X.env := chk_notStar h1 _ _
    exact ⟨pi_range2 g1 ok.1 (pa_cons A.1 (pa_cons B.1 pa_nil e2) e1) (e1.trans (by rw [e2])) e2, fun C z1 z2 z3 => ⟨di_range2 (A.2 C z1 z2 z3) (B.2 C z1 z2 z3), dic_range2 (A.2 C z1 z2 z3) (B.2 C z1 z2 z3)⟩⟩
  | .rangeW m n, X, sc, L, W, tg, e, c, hK, h, ok => by
    obtain ⟨p, x, y, q, rfl, h0, h1, h2⟩ := inv_rngW h
    have A := sndE m c hK h1 ok.2.1
    have B := sndE n c hK h2 ok.2.2
    obtain ⟨g1, g2, g3⟩ := gl_of c.hsc h0
    have e2 : starEach [y] X.env = [(false, eval y X.env)] := chk_notStar h2 _ _
    have e1 : starEach [x, y] X.env = (false, eval x X.env) :: starEach [y] X.env := chk_notStar h1 _ _
    exact ⟨pi_rangeW g1 ok.1 (pa_cons A.1 (pa_cons B.1 pa_nil e2) e1) (e1.trans (by rw [e2])) e2, fun C z1 z2 z3 => ⟨di_rangeW (A.2 C z1 z2 z3) (B.2 C z1 z2 z3), dic_rangeW (A.2 C z1 z2 z3) (B.2 C z1 z2 z3)⟩⟩
  | .rev m, X, sc, L, W, tg, e, c, hK, h, ok => by
    obtain ⟨p, x, q, rfl, h0, h1⟩ := inv_rev h
    have A := sndE m c hK h1 ok.2
    obtain ⟨g1, g2, g3⟩ := gl_of c.hsc h0
    have e1 : starEach [x] X.env = [(false, eval x X.env)] := chk_notStar h1 _ _
    refine ⟨?_, fun C z1 z2 z3 => by have A2 := A.2 C z1 z2 z3; subst z1; exact ⟨di_rev A2, dic_rev A2⟩⟩
    have P := A.1
    subst hK
    exact pi_reversed g1 ok.1 (pa_cons P pa_nil e1) e1
  | .zip m n, X, sc, L, W, tg, e, c, hK, h, ok => by
    obtain ⟨es, kk, tp, p, x, y, q, rfl, rfl, h0, h1, h2⟩ := inv_zip h
    have A := sndE m c hK h1 ok.2.1
    have B := sndE n c hK h2 ok.2.2
    obtain ⟨g1, g2, g3⟩ := gl_of c.hsc h0
    have e2 : starEach [y] X.env = [(false, eval y X.env)] := chk_notStar h2 _ _
    have e1 : starEach [x, y] X.env = (false, eval x X.env) :: starEach [y] X.env := chk_notStar h1 _ _
    refine ⟨?_, fun C z1 z2 z3 => by have A2 := A.2 C z1 z2 z3; have B2 := B.2 C z1 z2 z3; subst z1; exact ⟨di_zip A2 B2, dic_zip A2 B2⟩⟩
    have P := A.1
    have P2 := B.1
    subst hK
    exact RZ.pi_zipA g1 ok.1 (pa_cons P (pa_cons P2 pa_nil e2) e1) e1 (by rw [e2]; rfl)
  | .enum _, X, sc, L, W, tg, e, c, hK, h, ok => by simp [chkIt] at h
end
end
end Dv

namespace Dv
open PySem PySem.Spec PyProof.Rows L2

/-! ### statements: readings -/
section
variable (K : PySem.W.Frag) (ca : CaL)
mutual
def rdS (zx : ZX) : WX → S → TS
  | W, .asg t e => tAsg (rdE K ca zx W e) (rdTg K t)
  | W, .par i j a b => tPar i j (tCons (rdE K ca zx W a) (tCons (rdE K ca zx W b) tNil))
  | W, .par3 i j l a b c => tPar3 i j l (tCons (rdE K ca zx W a) (tCons (rdE K ca zx W b) (tCons (rdE K ca zx W c) tNil)))
  | W, .aug i e => tAug i (rdE K ca zx W e) (ipI fun i j => i + j)
  | W, .augIx i n e => sDAug (tVar i) (rdE K ca zx W n) (rdE K ca zx W e) rAdd
  | W, .setIx i n e => tAsg (rdE K ca zx W e) (gSub (tVar i) (rdE K ca zx W n) rSetA)
  | W, .app i e => tDrop (tBM K "list" rAppend (tVar i) (tCons (rdE K ca zx W e) tNil))
  | W, .appPop i j n => tDrop (tBM K "list" rAppend (tVar i) (tCons (tBM K "list" rPopAt (tVar j) (tCons (rdE K ca zx W n) tNil)) tNil))
  | _, .pop j i => tAsg (tBM0 K "list" rPop (tVar i)) (gName j)
  | W, .rot i n => tDrop (tBM K "list" rAppend (tVar i) (tCons (tBM K "list" rPopAt (tVar i) (tCons (rdE K ca zx W n) tNil)) tNil))
  | W, .popAt i n => tDrop (tBM K "list" rPopAt (tVar i) (tCons (rdE K ca zx W n) tNil))
  | _, .popd i => tDrop (tBM0 K "list" rPop (tVar i))
  | _, .rev i => tDrop (tBM0 K "list" rReverse (tVar i))
  | _, .clear i => tDrop (tBM0 K "list" rClear (tVar i))
  | W, .ext i e => tDrop (tBM K "list" rExtend (tVar i) (tCons (rdE K ca zx W e) tNil))
  | W, .expr e => tDrop (rdE K ca zx W e)
  | W, .ret e => tRet (rdE K ca zx W e)
  | _, .retv i => tRet (tVar i)
  | W, .iff c a b => tIfS (rdT K ca zx W c) (rdSs zx W a) (rdSs zx W b)
  | W, .whl c b => tWhile (rdT K ca zx W c) (rdSs zx W b)
  | W, .for t it b => tFor (rdIt K ca zx W it) (rdTg K t) (rdSs zx W b)
  | _, .brk => tBreak
  | _, .cont => tCont
  | _, .pass => tNext
  | W, .ins i n e => tDrop (tBM K "list" rIns (tVar i) (tCons (rdE K ca zx W n) (tCons (rdE K ca zx W e) tNil)))
  | W, .tri b hs => fun D σ H => rdSs zx (wCls K W D (rdHs hs)) b D σ H
  | W, .raise c .none => fun _ σ H => W (.ref (ca c)) none σ H
  | W, .raise c (.some a) => fun _ σ H => tMkO (ca c) (spI K (fldC c)) [] (tCons (rdE K ca zx W a) tNil) σ H fun cls d H' => W cls d σ H'
  | _, _ => fun _ _ _ => False
def rdSs (zx : ZX) : WX → Ss → TS
  | _, .nil => tNext
  | W, .cons s ss => (match s with
    | .frz _ => rdSs zx W ss
    | _ => tSeq (rdS zx W s) (rdSs zx W ss))
def rdHs : Hs → List Cl
  | .nil => []
  | .cons c i b hs => ⟨ca c, i, fun a cls d => rdSs (zOf ca a cls d) W0 b⟩ :: rdHs hs
end
end

/-! ### what the text must be -/
def isLC : Expr → Bool
  | .ListComp _ _ _ _ => true
  | .SetComp _ _ _ _ => true
  | .DictComp _ _ _ _ _ => true
  | _ => false
/-- name = a comprehension on one line: the stores are exchanged -/
def lcSame (sc : Scope) (x : Str) (p : Pos) : Expr → Bool
  | .ListComp _ _ scope pos => decide (p.line = pos.line) && !(scope.names.any fun (n, k) => n == x && (k == .local || k == .cell))
  | _ => false
def parB (sc : Scope) (i j : Nat) (x y : Str) (px py : Pos) (a b : Expr) : Bool :=
  (decide (i ≠ j) && (lclB sc x && lclB sc y)) && ((decide (px.line = py.line) && decide (x ≠ y)) && (!(([a, b] : List Expr).all (foldedForSure 8)) && !(([a, b] : List Expr).all (constantsAlone 8))))
def par3B (sc : Scope) (i j l : Nat) (x y z : Str) (px py pz : Pos) (a b c : Expr) : Bool :=
  ((decide (i ≠ j) && (decide (i ≠ l) && decide (j ≠ l))) && (lclB sc x && (lclB sc y && lclB sc z))) && ((decide (px.line = py.line) && (decide (px.line = pz.line) && (decide (x ≠ y) && (decide (x ≠ z) && decide (y ≠ z))))) && (!(([a, b, c] : List Expr).all (foldedForSure 8)) && !(([a, b, c] : List Expr).all (constantsAlone 8))))
/-- (..) = (..): when the stores are not exchanged -/
def noSwap (sc : Scope) : Expr → Expr → Bool
  | .Name _ _, _ => true
  | .Tuple ts _ _, .Tuple vs _ _ => (decide (ts.length = vs.length) && decide (4 ≤ ts.length)) || (vs.all (foldedForSure 8) || ts.any fun | .Name x _ => !lclB sc x | _ => true)
  | .Tuple _ _ _, _ => true
  | _, _ => false
def nmT : Tg → Bool
  | .nm _ => true
  | _ => false
mutual
def chkS (N : Nm) (sc : Scope) : S → Stmt → Bool
  | .asg t e, .Assign [tg] v p => ((!N.hot || nmT t) && (tgB true sc N t tg && chkE N sc e v)) && (match tg, v with
      | .Name x px, .ListComp a b c d => (match t with | .nm _ => true | _ => false) && ((lclB sc x && lcSame sc x px v) || (decide (px.line ≠ d.line) || !lclB sc x))
      | .Name _ _, _ => !isLC v
      | .Tuple ts _ _, .Tuple vs _ _ => noSwap sc (.Tuple ts 0 p) (.Tuple vs 0 p)
      | .Tuple _ _ _, _ => !isLC v
      | _, _ => false)
  | .par i j a b, .Assign [.Tuple [.Name x px, .Name y py] _ _] (.Tuple [u, v] _ _) _ => (!N.hot && (nmB N i x && nmB N j y) && parB sc i j x y px py u v) && (chkE N sc a u && chkE N sc b v)
  | .par3 i j l a b c, .Assign [.Tuple [.Name x px, .Name y py, .Name z pz] _ _] (.Tuple [u, v, w] _ _) _ => (!N.hot && (nmB N i x && (nmB N j y && nmB N l z)) && par3B sc i j l x y z px py pz u v w) && (chkE N sc a u && (chkE N sc b v && chkE N sc c w))
  | .aug i e, .AugAssign (.Name x _) .Add v _ => (nmB N i x && locB sc x) && chkE N sc e v
  | .augIx i n e, .AugAssign (.Subscript (.Name x _) k _) .Add v _ => ((nmB N i x && visB sc x) && noSl k) && (chkE N sc n k && chkE N sc e v)
  | .setIx i n e, .Assign [.Subscript (.Name x _) k _] v _ => ((nmB N i x && visB sc x) && (noSl k && !isLC v)) && (chkE N sc n k && chkE N sc e v)
  | .app i e, .Expr (.Call (.Attribute (.Name x _) at_ ap) [v] [] cp) _ => ((nmB N i x && visB sc x) && (decide (at_ = ("append" : Str)) && bmB ap cp)) && chkE N sc e v
  | .ext i e, .Expr (.Call (.Attribute (.Name x _) at_ ap) [v] [] cp) _ => ((nmB N i x && visB sc x) && (decide (at_ = ("extend" : Str)) && bmB ap cp)) && chkE N sc e v
  | .appPop i j e, .Expr (.Call (.Attribute (.Name x _) at_ ap) [.Call (.Attribute (.Name y _) at2 ap2) [v] [] cp2] [] cp) _ =>
      ((nmB N i x && visB sc x) && ((nmB N j y && visB sc y) && ((decide (at_ = ("append" : Str)) && bmB ap cp) && (decide (at2 = ("pop" : Str)) && bmB ap2 cp2)))) && chkE N sc e v
  | .pop j i, .Assign [.Name y _] (.Call (.Attribute (.Name x _) at_ ap) [] [] cp) _ => ((nmB N i x && visB sc x) && (decide (at_ = ("pop" : Str)) && bmB ap cp)) && (nmB N j y && lcB true sc y)
  | .rev i, .Expr (.Call (.Attribute (.Name x _) at_ ap) [] [] cp) _ => (nmB N i x && visB sc x) && (decide (at_ = ("reverse" : Str)) && bmB ap cp)
  | .rot i e, .Expr (.Call (.Attribute (.Name x _) at_ ap) [.Call (.Attribute (.Name y _) at2 ap2) [v] [] cp2] [] cp) _ =>
      ((nmB N i x && visB sc x) && ((nmB N i y && visB sc y) && ((decide (at_ = ("append" : Str)) && bmB ap cp) && (decide (at2 = ("pop" : Str)) && bmB ap2 cp2)))) && chkE N sc e v
  | .popAt i e, .Expr (.Call (.Attribute (.Name x _) at_ ap) [v] [] cp) _ => ((nmB N i x && visB sc x) && (decide (at_ = ("pop" : Str)) && bmB ap cp)) && chkE N sc e v
  | .popd i, .Expr (.Call (.Attribute (.Name x _) at_ ap) [] [] cp) _ => (nmB N i x && visB sc x) && (decide (at_ = ("pop" : Str)) && bmB ap cp)
  | .clear i, .Expr (.Call (.Attribute (.Name x _) at_ ap) [] [] cp) _ => (nmB N i x && visB sc x) && (decide (at_ = ("clear" : Str)) && bmB ap cp)
  | .expr e, .Expr v _ => !isLC v && chkE N sc e v
  | .ret e, .Return (some v) _ => chkE N sc e v
  | .retv i, .Return (some (.Name x _)) _ => nmB N i x && visB sc x
  | .iff c a b, .If e u v _ => chkE N sc c e && (chkSs N sc a u && chkSs N sc b v)
  | .whl c b, .While e u [] _ => !N.hot && chkE N sc c e && chkSs N sc b u
  | .for t it b, .For tg e u [] _ => (!N.hot && (tgB true sc N t tg && noSet e)) && (chkIt N sc it tg e && chkSs N sc b u)
  | .brk, .Break _ => true
  | .cont, .Continue _ => true
  | .pass, .Pass _ => true
  | .pass, .Expr (.Constant (.str _) _ _) _ => true
  | .raise c .none, .Raise (some (.Call (.Name x _) [.Constant (.str _) _ _] [] _)) none _ => !N.hot && (decide (c = x) && glB sc x)
  | .raise c (.some a), .Raise (some (.Call (.Name x _) [v] [] _)) none _ => (!N.hot && (decide (c = x) && glB sc x)) && chkE N sc a v
  | .ins i n e, .Expr (.Call (.Attribute (.Name x _) at_ ap) [k, v] [] cp) _ => ((nmB N i x && visB sc x) && (decide (at_ = ("insert" : Str)) && bmB ap cp)) && (chkE N sc n k && chkE N sc e v)
  | .tri b hs, .Try u (h :: hds) [] [] _ => !N.hot && (chkSs N sc b u && chkHs N sc hs (h :: hds))
  | .nev, _ => true
  | _, _ => false
def chkSs (N : Nm) (sc : Scope) : Ss → List Stmt → Bool
  | .nil, [] => true
  | .cons s ss, xs => (match s with
    | .frz _ => chkSs N sc ss xs
    | _ => (match xs with
      | [] => false
      | x :: xs => chkS N sc s x && chkSs N sc ss xs))
  | _, _ => false
def chkHs (N : Nm) (sc : Scope) : Hs → List ExceptHandler → Bool
  | .nil, [] => true
  | .cons c o b hs, .ExceptHandler (some (.Name x _)) n (s :: ss) _ :: hds => (decide (c = x) && glB sc x) && ((match o, n with
      | none, none => true
      | some i, some n => nmB N i n && lclB sc n
      | _, _ => false) && (chkSs ⟨N.l, true⟩ sc b (s :: ss) && chkHs N sc hs hds))
  | _, _ => false
end
mutual
def OkS (κ : Kns) : S → Prop
  | .asg _ e => OkE κ e
  | .par _ _ a b => OkE κ a ∧ OkE κ b
  | .par3 _ _ _ a b c => OkE κ a ∧ OkE κ b ∧ OkE κ c
  | .aug _ e => OkE κ e
  | .augIx _ n e => OkE κ n ∧ OkE κ e
  | .augAt _ a b e => OkE κ a ∧ OkE κ b ∧ OkE κ e
  | .setIx _ n e => OkE κ n ∧ OkE κ e
  | .app _ e => OkE κ e
  | .ext _ e => OkE κ e
  | .appPop _ _ e => OkE κ e
  | .rot _ e => OkE κ e
  | .popAt _ e => OkE κ e
  | .expr e => OkE κ e
  | .ret e => OkE κ e
  | .iff c a b => OkE κ c ∧ OkSs κ a ∧ OkSs κ b
  | .whl c b => OkE κ c ∧ OkSs κ b
  | .for _ it b => OkIt κ it ∧ OkSs κ b
  | .raise c .none => κ.ex c
  | .raise c (.some a) => κ.exf c (fldC c) ∧ OkE κ a
  | .ins _ n e => OkE κ n ∧ OkE κ e
  | .tri b hs => κ.er ∧ OkSs κ b ∧ OkHs κ hs
  | .wreck _ _ e => OkE κ e
  | _ => True
def OkSs (κ : Kns) : Ss → Prop
  | .nil => True
  | .cons s ss => OkS κ s ∧ OkSs κ ss
def OkHs (κ : Kns) : Hs → Prop
  | .nil => True
  | .cons c _ b hs => (κ.ec c ∧ c ≠ "ValueError") ∧ OkSs κ b ∧ OkHs κ hs
end
structure CtxS (X : Cx) (sc : Scope) (N : Nm) (ca : CaL) (zx : ZX) (L : Nat) (W : WX) : Prop extends Ctx X sc N ca zx L W where
  po : PassesOwn (model X.prog X.w) X.A X.env X.xe
  fn : ∀ x, X.fn x = true
  stk : N.hot = false → X.stack = X.env :: X.outer
  frm : X.env.frame = some X.env.locals
section
variable {X : Cx} {sc : Scope} {N : Nm} {L : Nat} {W : WX} {K : PySem.W.Frag} {ca : CaL} {zx : ZX}
theorem swap_none {env : PySem.Env} {e : Expr} {t : Option Expr} {l : Nat} (h : isLC e = false) : swapsWith e t l env = pure false := by
  cases e <;> first | rfl | (cases h)
theorem notLC {m : E} {e : Expr} (h : chkE N sc m e = true) (hm : ∀ t it c x, m ≠ .comp t it c x) : isLC e = false := by
  cases e <;> first | rfl | (exfalso; cases m <;> first | (exact hm _ _ _ _ rfl) | (simp [chkE] at h))
abbrev DSk (K : PySem.W.Frag) (ca : CaL) (zx : ZX) (W : WX) (t : TS) (w : Ko → En → Prop) : Prop := ∀ C : Cc, C.K = K → C.ca = ca → (∀ a d c, C.Z a d c → zx a d c) → DS C W t w
theorem ctx_nd (c : Ctx X sc N ca zx L W) : X.N.Nodup := by rw [c.hN]; exact c.nd
theorem ctx_nm (c : Ctx X sc N ca zx L W) {i : Nat} {x : Str} (h : nmB N i x = true) : X.N[i]? = some x := by rw [c.hN]; exact (nm_of h).1
theorem ctx_lcl (c : Ctx X sc N ca zx L W) {x : Str} (h : lclB sc x = true) : X.env.scope.names.lookup x = some .local := by rw [c.hsc]; exact lcl_of h
theorem ctx_var (c : Ctx X sc N ca zx L W) {i : Nat} {x : Str} {p : Pos} (h : (nmB N i x && visB sc x) = true) : PE X (.Name x p) (tVar i) := by
  rw [Bool.and_eq_true] at h
  exact pe_var (ctx_nm c h.1) (by rw [c.hsc]; exact vis_of h.2) (nm_of h.1).2.1 (nm_of h.1).2.2
theorem bad_s {s : Stmt} : PS X s (fun _ _ _ => False) := ⟨fun _ _ _ _ _ _ h => h.elim⟩
theorem bad_ds : DSk K ca zx W (fun _ _ _ => False) (fun _ _ => False) := fun _ _ _ _ _ _ _ _ _ _ _ _ h => h.elim
theorem chk_nst {m : E} {e : Expr} (h : chkE N sc m e = true) : ∀ v p, e ≠ .Starred v p := by
  intro v p e1
  subst e1
  cases m <;> simp [chkE] at h
theorem swapped_par {i j : Nat} {x y : Str} {px py p1 p2 : Pos} {k1 k2 : Nat} {a b : Expr} {env : PySem.Env} (hk : env.scope.kind = .function) (hs : env.scope = sc) (h : parB sc i j x y px py a b = true) (ha : ∀ v p, a ≠ .Starred v p) (hb : ∀ v p, b ≠ .Starred v p) :
    swappedStores [.Tuple [.Name x px, .Name y py] k1 p1] (.Tuple [a, b] k2 p2) env = pure (some [x, y]) := by
  unfold parB at h
  simp only [Bool.and_eq_true, decide_eq_true_eq, Bool.not_eq_true'] at h
  obtain ⟨⟨hij, hx, hy⟩, ⟨hl, hxy⟩, hf, hc⟩ := h
  have hb' : env.blockKind = .function := by unfold Env.blockKind; rw [hk]; rfl
  have kx : env.kindOf x = some .local := by unfold Env.kindOf; rw [hs]; exact lcl_of hx
  have ky : env.kindOf y = some .local := by unfold Env.kindOf; rw [hs]; exact lcl_of hy
  have hy2 : py.line = px.line := hl.symm
  have ed : (y == x) = false := by simpa using fun e => hxy e.symm
  unfold swappedStores
  dsimp only
  refine (if_neg (by simp [hb'])).trans ?_
  refine (if_neg ?_).trans ?_
  · intro q
    simp only [List.any_cons, List.any_nil, Bool.or_eq_true, Bool.false_eq_true, or_false] at q
  refine (if_neg (by simp [List.filterMap_cons, kx, ky, hy2, Expr.pos, List.eraseDups_cons, ed])).trans ?_
  refine (if_neg (by rw [hf]; exact Bool.false_ne_true)).trans ?_
  refine (if_neg (by rw [hc]; exact Bool.false_ne_true)).trans ?_
  simp [List.filterMap_cons, kx, ky, hy2, Expr.pos]
theorem swapped_par3 {i j l : Nat} {x y z : Str} {px py pz p1 p2 : Pos} {k1 k2 : Nat} {a b c : Expr} {env : PySem.Env} (hk : env.scope.kind = .function) (hs : env.scope = sc) (h : par3B sc i j l x y z px py pz a b c = true) (ha : ∀ v p, a ≠ .Starred v p) (hb : ∀ v p, b ≠ .Starred v p) (hd : ∀ v p, c ≠ .Starred v p) :
    swappedStores [.Tuple [.Name x px, .Name y py, .Name z pz] k1 p1] (.Tuple [a, b, c] k2 p2) env = pure (some [x, y, z]) := by
  unfold par3B at h
  simp only [Bool.and_eq_true, decide_eq_true_eq, Bool.not_eq_true'] at h
  obtain ⟨⟨hij, hx, hy, hz⟩, ⟨hl, hl2, hxy, hxz, hyz⟩, hf, hc⟩ := h
  have hb' : env.blockKind = .function := by unfold Env.blockKind; rw [hk]; rfl
  have kx : env.kindOf x = some .local := by unfold Env.kindOf; rw [hs]; exact lcl_of hx
  have ky : env.kindOf y = some .local := by unfold Env.kindOf; rw [hs]; exact lcl_of hy
  have kz : env.kindOf z = some .local := by unfold Env.kindOf; rw [hs]; exact lcl_of hz
  have hy2 : py.line = px.line := hl.symm
  have hz2 : pz.line = px.line := hl2.symm
  have ed : (y == x) = false := by simpa using fun e => hxy e.symm
  have ed2 : (z == x) = false := by simpa using fun e => hxz e.symm
  have ed3 : (z == y) = false := by simpa using fun e => hyz e.symm
  unfold swappedStores
  dsimp only
  refine (if_neg (by simp [hb'])).trans ?_
  refine (if_neg ?_).trans ?_
  · intro q
    simp only [List.any_cons, List.any_nil, Bool.or_eq_true, Bool.false_eq_true, or_false] at q
  refine (if_neg (by simp [List.filterMap_cons, kx, ky, kz, hy2, hz2, Expr.pos, List.eraseDups_cons, ed, ed2, ed3])).trans ?_
  refine (if_neg (by rw [hf]; exact Bool.false_ne_true)).trans ?_
  refine (if_neg (by rw [hc]; exact Bool.false_ne_true)).trans ?_
  simp [List.filterMap_cons, kx, ky, kz, hy2, hz2, Expr.pos]
theorem fm_lt {α β : Type} {f : α → Option β} : ∀ {ts : List α} {e : α}, e ∈ ts → f e = none → (ts.filterMap f).length < ts.length
  | [], e, h, _ => by cases h
  | t :: ts, e, h, hf => by
    rcases List.mem_cons.mp h with h | h
    · subst h
      rw [List.filterMap_cons_none hf]
      exact Nat.lt_succ_of_le (List.length_filterMap_le _ _)
    · have := fm_lt h hf
      cases q : f t with
      | none => rw [List.filterMap_cons_none q]; exact Nat.lt_succ_of_lt this
      | some z => rw [List.filterMap_cons_some q]; exact Nat.succ_lt_succ this
theorem swapped_none {tg v : Expr} {env : PySem.Env} (hs : env.scope = sc) (h : noSwap sc tg v = true) : swappedStores [tg] v env = pure none := by
  cases tg with
  | Name x p => rfl
  | Tuple ts k p =>
    cases v with
    | Tuple vs k2 p2 =>
      unfold noSwap at h
      simp only [Bool.or_eq_true, Bool.and_eq_true, decide_eq_true_eq] at h
      unfold swappedStores
      dsimp only
      rcases h with ⟨h1, h2⟩ | h | h
      · exact if_pos (by simp; omega)
      · split
        · rfl
        split
        · rfl
        split
        · rfl
        first | rfl | exact if_pos h
      · split
        · rfl
        split
        · rfl
        split
        · rfl
        · rename_i h1 h2 h3
          exfalso
          apply h3
          rw [Bool.or_eq_true]
          left
          obtain ⟨e, he, hq⟩ := List.any_eq_true.mp h
          rw [bne_iff_ne]
          refine Nat.ne_of_lt (fm_lt he ?_)
          cases e <;> first | rfl | skip
          rename_i x q
          have hq : (!lclB sc x) = true := hq
          refine if_neg ?_
          intro z
          rw [Bool.and_eq_true] at z
          have : env.kindOf x = some .local := by simpa using z.1
          unfold Env.kindOf at this
          rw [hs] at this
          unfold lclB at hq
          rw [this] at hq
          cases hq
    | _ => rfl
  | _ => cases h
end
end Dv

namespace Dv
open PySem PySem.Spec PyProof.Rows L2
/-- the text of such an __init__ -/
def initB (sc : Scope) (f s y : Str) : List Stmt → Bool
  | [.Assign [.Attribute (.Name s' p1) f' p2] (.Name y' p3) p4] => decide (s = s') && (decide (f = f') && (decide (y = y') && ((visB sc s && visB sc y) && ((!(s == ("__debug__" : Str)) && !(s == ("__classdict__" : Str))) && (!(y == ("__debug__" : Str)) && !(y == ("__classdict__" : Str)))))))
  | _ => false
theorem init_ok {P : Program} {w : World} {K : PySem.W.Frag} {mg : Str → Option Value} {base : Heap} {name qual : Str} {pa : Arguments} {bd : List Stmt} {scope : Scope} {fI : Addr} {fd : FuncData} {f s y : Str}
    (F : FunD K name qual pa bd scope [] [] fI fd) (S : FnScope [s, y] [s, y] scope) (h : initB scope f s y bd = true) : FnOk P w K mg base (L2.CX P w) 1 fI fd [s, y] (spI K f) := by
  unfold initB at h
  split at h
  case h_2 => cases h
  simp only [Bool.and_eq_true, decide_eq_true_eq, Bool.not_eq_true'] at h
  obtain ⟨rfl, rfl, rfl, ⟨v1, v2⟩, ⟨d1, d2⟩, d3, d4⟩ := h
  refine F.ok S (fun vs H Q E h => ?_) (fun cdv A outer sh H vs Q E hr h => ?_)
  · obtain ⟨a, C, y, rfl, _⟩ := h
    rfl
  · obtain ⟨a, C, y, rfl, T, hno, he, hq⟩ := h
    refine ⟨_, pss_one (ps_ost (pe_var (i := 0) rfl (vis_of v1) d1 d2) (pe_var (i := 1) rfl (vis_of v2) d3 d4)), ?_⟩
    refine ⟨y, rfl, .ref a, rfl, a, C, rfl, T, hno, .inl ⟨he, fun dx hn hne => ?_⟩⟩
    exact hq dx hn hne
section
variable {C : Cc} {W : WX} {H : Hp}
theorem ds_raiseI {c f : Str} {ta : TE} {wa : WpE} (ha : DE C W ta wa) (hT : OexC C.K (C.ca c)) (hno : PySem.W.findIn C.K (.ref (C.ca c)) f = some none) (hcl : c ∈ C.ca.l) :
    DS C W (fun _ σ H => tMkO (C.ca c) (spI C.K f) [] (tCons ta tNil) σ H fun cls d H' => W cls d σ H') (fun k env => wa env (fun r => match r.d with
      | .int i => k.ex ⟨c, f, [.int i]⟩ env
      | .str s => k.ex ⟨c, f, [.str s]⟩ env
      | _ => False) fun x => k.ex x env) := by
  intro G env σ H k D R cm h
  refine ha G env σ H _ _ _ R (cm.xok R) ?_ h
  intro v H1 r s1 p q
  refine ⟨by simp, fun a hn => ?_⟩
  have fin : ∀ z : Dv.D, Sc z v → k.ex ⟨c, f, [z]⟩ env → spI C.K f (.ref a :: ([v] ++ [])) (upd H1 a (exo a (C.ca c) none)) (fun u H2 => u = .non ∧ ∃ (d : Addr) (fs : List (Str × V)), H2 a = some (exo a (C.ca c) (some d)) ∧ H2 d = some (exd d fs) ∧ H1 d = none ∧ W (.ref (C.ca c)) (some d) σ (upd (del H2 a) d (.xd fs))) (fun _ _ _ => False) := by
    intro z hz hk
    refine ⟨a, C.ca c, v, rfl, hT, hno, upd_same, fun dx hdx hne => ⟨rfl, dx, [(f, v)], upd_same, ?_, ?_, ?_⟩⟩
    · rw [upd_ne hne, upd_same]
    · rw [upd_ne hne] at hdx
      exact hdx
    · have hd1 : H1 dx = none := by rw [upd_ne hne] at hdx; exact hdx
      have sm : Same H1 (upd (del (upd (upd (upd H1 a (exo a (C.ca c) none)) dx (exd dx [(f, v)])) a (exo a (C.ca c) (some dx))) a) dx (.xd [(f, v)])) := by
        intro b o e
        have ba : b ≠ a := ne_of_none e hn
        have bd : b ≠ dx := ne_of_none e hd1
        rw [upd_ne bd, del_ne ba, upd_ne ba, upd_ne bd, upd_ne ba]
        exact e
      refine cm.ex env σ _ ⟨c, f, [z]⟩ _ _ ((R.same s1).same sm) ⟨⟨rfl, hcl⟩, dx, v, rfl, upd_same, hz⟩ hk
  split at q
  · rename_i i e
    rw [p.int e] at fin ⊢
    exact fin (.int i) rfl q
  · rename_i x e
    rw [p.str e] at fin ⊢
    exact fin (.str x) rfl q
  · exact q.elim
end
section
variable {X : Cx} {sc : Scope} {N : Nm} {L : Nat} {W : WX} {K : PySem.W.Frag} {ca : CaL} {zx : ZX}
theorem cx_no0 {P : Program} {w : World} {H : Hp} {s : Shared} {e : Value} {s' : Shared} {o : List Env} (h : L2.CX P w o H s (fun _ _ _ => False) e s') : False := by
  obtain ⟨_, _, _, _, _, _, _, _, _, _, _, _, z⟩ := h
  exact z.elim
theorem pmk_I {x f : Str} {e : Expr} {ta : TE} {p pos : Pos} (hr : Room 2 X.A) (I : ExI X.prog X.w X.K X.mg X.base ca x f) (hg : Gl X x) (ha : PE X e ta) (he : starEach [e] X.env = [(false, eval e X.env)])
    (hdb : (x == ("__debug__" : Str)) = false) : PMk X (.Call (.Name x p) [e] [] pos) (tMkO (ca x) (spI X.K f) [] (tCons ta tNil)) := by
  obtain ⟨fI, fd, ps, T, iC, tI, F, hb, hm, hno⟩ := I
  exact pmk_oex (k := 1) T iC tI F hr hb .nil (fun _ _ _ _ _ _ _ z => (cx_no0 z).elim) hg hm (pa_cons ha pa_nil he) hdb he rfl
end
end Dv

namespace Dv
open PySem PySem.Spec PyProof.Rows L2
section
variable {X : Cx} {sc : Scope} {N : Nm} {L : Nat} {W : WX} {K : PySem.W.Frag} {ca : CaL} {zx : ZX}
theorem swap_cell {y : Str} {py d : Pos} {x : Expr} {gs : List Comprehension} {scope : Scope} {l : Nat} {env : PySem.Env} (hs : env.scope = sc) (h : lclB sc y = false) : swapsWith (.ListComp x gs scope d) (some (.Name y py)) l env = pure false := by
  have k : (env.kindOf y == some .local) = false := by
    cases q : (env.kindOf y == some NameKind.local) with
    | false => rfl
    | true =>
      have : env.kindOf y = some .local := by simpa using q
      unfold Env.kindOf at this
      rw [hs] at this
      unfold lclB at h
      rw [this] at h
      cases h
  unfold swapsWith
  simp only [k, Bool.and_false, Bool.false_and]
theorem snd_setLc {t : Tg} {it : Dv.It} {cd : Eo} {m : E} {i : Nat} {y : Str} {py : Pos} {e : Expr} {spos : Pos} (c : Ctx X sc N ca zx L W) (hK : X.K = K) (hN : nmB N i y = true) (hy : lclB sc y = true) (hs : lcSame sc y py e = true)
    (h : chkE N sc (.comp t it cd m) e = true) (ok : OkE (kns X ca L) (.comp t it cd m)) : PS X (.Assign [.Name y py] e spos) (tAsg (rdE K ca zx W (.comp t it cd m)) (gName i)) := by
  obtain ⟨hh, x, tg, itx, ifs, scope, p, rfl, h0, h1, h2, h3, h4, h5, h6⟩ := inv_comp h
  have hblk := blkOk_by h1
  have P := (sndIt it c hK h3 ok.1).1
  have hb2 : BlkOk X.N X.env.scope scope (tgO t tg) := by rw [c.hN, c.hsc]; exact hblk
  have PC := fun s H Cc cl fp => (sndC cd (c.blk (s := s) (H := H) (cl := cl) (Cc := Cc) (fp := fp) hh hblk.kind) hK h5 ok.2.1).1
  have PM := fun s H Cc cl fp => (sndE m (c.blk (s := s) (H := H) (cl := cl) (Cc := Cc) (fp := fp) hh hblk.kind) hK h6 ok.2.2).1
  unfold lcSame at hs
  rw [Bool.and_eq_true, decide_eq_true_eq, Bool.not_eq_true'] at hs
  subst hK
  have sw : swapsWith (.ListComp x [⟨tg, itx, ifs, 0⟩] scope p) (some (.Name y py)) spos.line X.env = pure true := sw_true c.kd (ctx_lcl c hy) (by rw [hs.1]; exact beq_self_eq_true _) hs.2
  have := ps_setLc (spos := spos) (c.calm hh) (ctx_nd c) (ctx_nm c hN) (ctx_lcl c hy) sw P hb2 (fun s H Cc cl fp => pg_of (b := false) (c.blk hh hblk.kind) (.inl (c.calm hh)) (fun z => by cases z) rfl h4) PC PM (noFold h0 _)
  rw [h2] at this
  exact this
theorem swap_line {t : Tg} {it : Dv.It} {cd : Eo} {m : E} {y : Str} {py d : Pos} {x : Expr} {gs : List Comprehension} {scope : Scope} {l : Nat} {env : PySem.Env} (h : py.line ≠ d.line) : swapsWith (.ListComp x gs scope d) (some (.Name y py)) l env = pure false := by
  have : (py.line == d.line) = false := by simpa using h
  unfold swapsWith
  simp only [Expr.pos, this, Bool.and_false, Bool.false_and]
theorem s_asg {t : Tg} {m : E} {s : Stmt} (c : Ctx X sc N ca zx L W) (hf : ∀ x, X.fn x = true) (hK : X.K = K) (h : chkS N sc (.asg t m) s = true) (ok : OkE (kns X ca L) m) : PS X s (tAsg (rdE K ca zx W m) (rdTg K t)) ∧ DSk K ca zx W (tAsg (rdE K ca zx W m) (rdTg K t)) (wpS (.asg t m)) := by
  unfold chkS at h
  split at h <;> first | (cases h; done) | skip
  all_goals simp only [reduceCtorEq, S.asg.injEq] at *
  rename_i t' m' tg v p e0
  obtain ⟨e1, e2⟩ := e0
  subst e1 e2
  simp only [Bool.and_eq_true] at h
  obtain ⟨⟨h0, h1, h2⟩, h3⟩ := h
  have A := sndE m c hK h2 ok
  have hc : X.calm = true ∨ ∃ i, t = .nm i := by
    rw [Bool.or_eq_true, Bool.not_eq_true'] at h0
    rcases h0 with h0 | h0
    · exact .inl (c.calm h0)
    · cases t with
      | nm i => exact .inr ⟨i, rfl⟩
      | _ => cases h0
  refine ⟨?_, fun C z1 z2 z3 => by have A2 := A.2 C z1 z2 z3; subst z1; exact ds_asg A2⟩
  have G := pg_of c hc (fun _ => hf) hK h1
  have asg1 : (assignEach [tg] X.env).map (·.2) = [assign tg X.env] := by
    cases tg <;> first | rfl | (cases t <;> simp [tgB] at h1)
  have gen : swapsWith v (some tg) p.line X.env = pure false → noSwap sc tg v = true → PS X (.Assign [tg] v p) (tAsg (rdE K ca zx W m) (rdTg K t)) := fun q1 q2 => ps_asg A.1 G q1 (swapped_none c.hsc q2) asg1
  cases tg with
  | Name x px =>
    cases v with
    | ListComp a b c' d =>
      simp only [Bool.and_eq_true, Bool.or_eq_true, decide_eq_true_eq, Bool.not_eq_true'] at h3
      rcases h3.2 with ⟨q0, q⟩ | q | q
      · cases t with
        | nm i =>
          have hh : (nmB N i x && lcB true sc x) = true := h1
          rw [Bool.and_eq_true] at hh
          cases m with
          | comp t2 it cd mm => exact snd_setLc c hK hh.1 q0 q h2 ok
          | _ => simp [chkE] at h2
        | _ => cases h3.1
      · exact gen (swap_line (t := t) (it := .seq .non) (cd := .none) (m := m) q) rfl
      · exact gen (swap_cell c.hsc q) rfl
    | _ => exact gen (swap_none (by first | rfl | (simpa using h3))) rfl
  | Tuple ts k q =>
    cases v with
    | Tuple vs k2 q2 => exact gen (swap_none rfl) h3
    | _ => exact gen (swap_none (by first | rfl | (simpa using h3))) (by first | rfl | (simpa [noSwap] using h3))
  | _ => cases t <;> simp [tgB] at h1
theorem star1 {m : E} {v : Expr} {env : PySem.Env} (h : chkE N sc m v = true) : starEach [v] env = [(false, eval v env)] := chk_notStar h _ _
theorem few1 {m : E} {v : Expr} {env : PySem.Env} {cp : Pos} (h : chkE N sc m v = true) : ((backTo cp (starEach [v] env)).all (fun x => !x.1) && (backToKw cp (keywordEach [] env)).all (fun x => x.1.isSome)
      && decide (([v] : List Expr).length + ([] : List Keyword).length + (if ([] : List Keyword).isEmpty then 0 else 1) < 30)) = true := by
  rw [star1 h]
  rfl
theorem bm_app {m : E} {v : Expr} {tv : TE} {i : Nat} {x : Str} {p1 ap cp : Pos} (c : Ctx X sc N ca zx L W) (hx : (nmB N i x && visB sc x) = true) (hl : bmB ap cp = true) (h : chkE N sc m v = true) (A : PE X v tv) :
    PE X (.Call (.Attribute (.Name x p1) "append" ap) [v] [] cp) (tBM X.K "list" rAppend (tVar i) (tCons tv tNil)) :=
  pe_bm PySem.F.plainAttrs_list PySem.F.slot_list_append PySem.F.type_list_append mt_append (ctx_var c hx) (pa_cons A pa_nil (star1 h)) rfl (few1 h) hl (star1 h) rfl
theorem bm_ext {m : E} {v : Expr} {tv : TE} {i : Nat} {x : Str} {p1 ap cp : Pos} (c : Ctx X sc N ca zx L W) (hx : (nmB N i x && visB sc x) = true) (hl : bmB ap cp = true) (h : chkE N sc m v = true) (A : PE X v tv) :
    PE X (.Call (.Attribute (.Name x p1) "extend" ap) [v] [] cp) (tBM X.K "list" rExtend (tVar i) (tCons tv tNil)) :=
  pe_bm PySem.F.plainAttrs_list PySem.F.slot_list_extend PySem.F.type_list_extend mt_extend (ctx_var c hx) (pa_cons A pa_nil (star1 h)) rfl (few1 h) hl (star1 h) rfl
theorem bm_popAt {m : E} {v : Expr} {tv : TE} {i : Nat} {x : Str} {p1 ap cp : Pos} (c : Ctx X sc N ca zx L W) (hx : (nmB N i x && visB sc x) = true) (hl : bmB ap cp = true) (h : chkE N sc m v = true) (A : PE X v tv) :
    PE X (.Call (.Attribute (.Name x p1) "pop" ap) [v] [] cp) (tBM X.K "list" rPopAt (tVar i) (tCons tv tNil)) :=
  pe_bm PySem.F.plainAttrs_list PySem.F.slot_list_pop PySem.F.type_list_pop mt_popAt (ctx_var c hx) (pa_cons A pa_nil (star1 h)) rfl (few1 h) hl (star1 h) rfl
theorem bm_pop {i : Nat} {x : Str} {p1 ap cp : Pos} (c : Ctx X sc N ca zx L W) (hx : (nmB N i x && visB sc x) = true) (hl : bmB ap cp = true) :
    PE X (.Call (.Attribute (.Name x p1) "pop" ap) [] [] cp) (tBM0 X.K "list" rPop (tVar i)) :=
  pe_bm0 PySem.F.plainAttrs_list PySem.F.slot_list_pop PySem.F.type_list_pop mt_pop (ctx_var c hx) rfl hl
theorem bm_rev {i : Nat} {x : Str} {p1 ap cp : Pos} (c : Ctx X sc N ca zx L W) (hx : (nmB N i x && visB sc x) = true) (hl : bmB ap cp = true) :
    PE X (.Call (.Attribute (.Name x p1) "reverse" ap) [] [] cp) (tBM0 X.K "list" rReverse (tVar i)) :=
  pe_bm0 PySem.F.plainAttrs_list PySem.F.slot_list_reverse PySem.F.type_list_reverse mt_reverse (ctx_var c hx) rfl hl
theorem bm_clear {i : Nat} {x : Str} {p1 ap cp : Pos} (c : Ctx X sc N ca zx L W) (hx : (nmB N i x && visB sc x) = true) (hl : bmB ap cp = true) :
    PE X (.Call (.Attribute (.Name x p1) "clear" ap) [] [] cp) (tBM0 X.K "list" rClear (tVar i)) :=
  pe_bm0 PySem.F.plainAttrs_list PySem.F.slot_list_clear PySem.F.type_list_clear mt_clear (ctx_var c hx) rfl hl
abbrev Snd (X : Cx) (K : PySem.W.Frag) (ca : CaL) (zx : ZX) (W : WX) (m : S) (s : Stmt) : Prop := PS X s (rdS K ca zx W m) ∧ DSk K ca zx W (rdS K ca zx W m) (wpS m)
theorem s_par {i j : Nat} {a b : E} {s : Stmt} (c : Ctx X sc N ca zx L W) (hK : X.K = K) (h : chkS N sc (.par i j a b) s = true) (ok : OkS (kns X ca L) (.par i j a b)) : Snd X K ca zx W (.par i j a b) s := by
  unfold chkS at h
  split at h <;> first | (cases h; done) | skip
  all_goals simp only [reduceCtorEq, S.par.injEq] at *
  rename_i e0
  obtain ⟨e1, e2, e3, e4⟩ := e0
  subst e1 e2 e3 e4
  simp only [Bool.and_eq_true, Bool.not_eq_true'] at h
  obtain ⟨⟨⟨hh, h1, h2⟩, h3⟩, h4, h5⟩ := h
  have A := sndE a c hK h4 ok.1
  have B := sndE b c hK h5 ok.2
  have h3' := h3
  unfold parB at h3'
  simp only [Bool.and_eq_true, decide_eq_true_eq] at h3'
  exact ⟨ps_par (c.calm hh) (ctx_nd c) (ctx_nm c h1) (ctx_nm c h2) h3'.1.1 (ctx_lcl c h3'.1.2.1) (ctx_lcl c h3'.1.2.2) (pa_cons A.1 (pa_cons B.1 pa_nil (chk_notStar h5 _ _)) (chk_notStar h4 _ _)) (swapped_par c.kd c.hsc h3 (chk_nst h4) (chk_nst h5)),
    fun C z1 z2 z3 => ds_par (A.2 C z1 z2 z3) (B.2 C z1 z2 z3)⟩
theorem s_par3 {i j l : Nat} {a b d : E} {s : Stmt} (c : Ctx X sc N ca zx L W) (hK : X.K = K) (h : chkS N sc (.par3 i j l a b d) s = true) (ok : OkS (kns X ca L) (.par3 i j l a b d)) : Snd X K ca zx W (.par3 i j l a b d) s := by
  unfold chkS at h
  split at h <;> first | (cases h; done) | skip
  all_goals simp only [reduceCtorEq, S.par3.injEq] at *
  rename_i e0
  obtain ⟨e1, e2, e3, e4, e5, e6⟩ := e0
  subst e1 e2 e3 e4 e5 e6
  simp only [Bool.and_eq_true, Bool.not_eq_true'] at h
  obtain ⟨⟨⟨hh, h1, h2, h2'⟩, h3⟩, h4, h5, h6⟩ := h
  have A := sndE a c hK h4 ok.1
  have B := sndE b c hK h5 ok.2.1
  have D := sndE d c hK h6 ok.2.2
  have h3' := h3
  unfold par3B at h3'
  simp only [Bool.and_eq_true, decide_eq_true_eq] at h3'
  exact ⟨ps_par3 (c.calm hh) (ctx_nd c) (ctx_nm c h1) (ctx_nm c h2) (ctx_nm c h2') h3'.1.1.1 h3'.1.1.2.1 h3'.1.1.2.2 (ctx_lcl c h3'.1.2.1) (ctx_lcl c h3'.1.2.2.1) (ctx_lcl c h3'.1.2.2.2) (pa_cons A.1 (pa_cons B.1 (pa_cons D.1 pa_nil (chk_notStar h6 _ _)) (chk_notStar h5 _ _)) (chk_notStar h4 _ _)) (swapped_par3 c.kd c.hsc h3 (chk_nst h4) (chk_nst h5) (chk_nst h6)),
    fun C z1 z2 z3 => ds_par3 (A.2 C z1 z2 z3) (B.2 C z1 z2 z3) (D.2 C z1 z2 z3)⟩
theorem s_aug {i : Nat} {m : E} {s : Stmt} (c : Ctx X sc N ca zx L W) (hf : ∀ x, X.fn x = true) (hK : X.K = K) (h : chkS N sc (.aug i m) s = true) (ok : OkS (kns X ca L) (.aug i m)) : Snd X K ca zx W (.aug i m) s := by
  unfold chkS at h
  split at h <;> first | (cases h; done) | skip
  all_goals simp only [reduceCtorEq, S.aug.injEq] at *
  rename_i e0
  obtain ⟨e1, e2⟩ := e0
  subst e1 e2
  simp only [Bool.and_eq_true] at h
  obtain ⟨⟨h1, h2⟩, h3⟩ := h
  have A := sndE m c hK h3 ok
  exact ⟨ps_aug (ctx_nd c) (ctx_nm c h1) (by rw [c.hsc]; exact loc_of h2) A.1 ip_add (.inl (hf _)), fun C z1 z2 z3 => ds_aug (A.2 C z1 z2 z3)⟩
theorem swap_sole {env : PySem.Env} {t e : Expr} {l : Nat} (h : isLC e = false) : swapsWithSole [t] e l env = pure false := by
  have h2 : swapsWith e (some t) l env = pure false := swap_none h
  exact h2
theorem asg_sub {o i : Expr} {env : PySem.Env} {pos : Pos} (h : noSl i = true) : ∀ v, assign (.Subscript o i pos) env v = (do
      let ov ← holding [v] (eval o env)
      let iv ← holding [v, ov] (eval i env)
      standAt pos
      holding [v, ov, iv] (setItem ov iv v)
      release [v, ov, iv] []) := by
  intro v
  cases i <;> first | rfl | cases h
theorem aug_sub {i : Expr} (h : noSl i = true) : ∀ ov iv new, augStore i ov iv new = (do holding [new, ov, iv] (setItem ov iv new); release [new, ov, iv] []; pure .next) := by
  intro ov iv new
  cases i <;> first | rfl | cases h
theorem s_augIx {i : Nat} {n m : E} {s : Stmt} (c : Ctx X sc N ca zx L W) (hK : X.K = K) (h : chkS N sc (.augIx i n m) s = true) (ok : OkS (kns X ca L) (.augIx i n m)) : Snd X K ca zx W (.augIx i n m) s := by
  unfold chkS at h
  split at h <;> first | (cases h; done) | skip
  all_goals simp only [reduceCtorEq, S.augIx.injEq] at *
  rename_i e0
  obtain ⟨e1, e2, e3⟩ := e0
  subst e1 e2 e3
  simp only [Bool.and_eq_true (a := _ && _) (b := _ && _)] at h
  obtain ⟨h1, h4⟩ := h
  rw [Bool.and_eq_true (b := noSl _)] at h1
  rw [Bool.and_eq_true] at h4
  have A := sndE n c hK h4.1 ok.1
  have B := sndE m c hK h4.2 ok.2
  exact ⟨ps_daug (show _ < _ by have := c.un; omega) (ctx_var c h1.1) A.1 B.1 in_add (aug_sub h1.2), fun C z1 z2 z3 => ds_augIx (A.2 C z1 z2 z3) (B.2 C z1 z2 z3)⟩
theorem s_setIx {i : Nat} {n m : E} {s : Stmt} (c : Ctx X sc N ca zx L W) (hK : X.K = K) (h : chkS N sc (.setIx i n m) s = true) (ok : OkS (kns X ca L) (.setIx i n m)) : Snd X K ca zx W (.setIx i n m) s := by
  unfold chkS at h
  split at h <;> first | (cases h; done) | skip
  all_goals simp only [reduceCtorEq, S.setIx.injEq] at *
  rename_i e0
  obtain ⟨e1, e2, e3⟩ := e0
  subst e1 e2 e3
  simp only [Bool.and_eq_true (a := _ && _) (b := _ && _), Bool.not_eq_true'] at h
  obtain ⟨⟨h1, h2⟩, h4⟩ := h
  rw [Bool.and_eq_true] at h2 h4
  have A := sndE n c hK h4.1 ok.1
  have B := sndE m c hK h4.2 ok.2
  exact ⟨ps_asg B.1 (pg_sub (ctx_var c h1) A.1 (set_any (show _ < _ by have := c.un; omega)) (asg_sub h2.1)) (swap_sole (by simpa using h2.2)) rfl rfl, fun C z1 z2 z3 => ds_setIx (B.2 C z1 z2 z3) (A.2 C z1 z2 z3)⟩
theorem s_app {i : Nat} {m : E} {s : Stmt} (c : Ctx X sc N ca zx L W) (hK : X.K = K) (h : chkS N sc (.app i m) s = true) (ok : OkS (kns X ca L) (.app i m)) : Snd X K ca zx W (.app i m) s := by
  unfold chkS at h
  split at h <;> first | (cases h; done) | skip
  all_goals simp only [reduceCtorEq, S.app.injEq] at *
  rename_i e0
  obtain ⟨e1, e2⟩ := e0
  subst e1 e2
  rw [Bool.and_eq_true, Bool.and_eq_true (b := _ && bmB _ _), Bool.and_eq_true (b := bmB _ _), decide_eq_true_eq] at h
  obtain ⟨⟨h1, rfl, h2⟩, h3⟩ := h
  have A := sndE m c hK h3 ok
  subst hK
  exact ⟨ps_expr (bm_app c h1 h2 h3 A.1) (swap_none rfl), fun C z1 z2 z3 => by have A2 := A.2 C z1 z2 z3; rw [← z1] at A2 ⊢; exact ds_app A2⟩
theorem s_ext {i : Nat} {m : E} {s : Stmt} (c : Ctx X sc N ca zx L W) (hK : X.K = K) (h : chkS N sc (.ext i m) s = true) (ok : OkS (kns X ca L) (.ext i m)) : Snd X K ca zx W (.ext i m) s := by
  unfold chkS at h
  split at h <;> first | (cases h; done) | skip
  all_goals simp only [reduceCtorEq, S.ext.injEq] at *
  rename_i e0
  obtain ⟨e1, e2⟩ := e0
  subst e1 e2
  rw [Bool.and_eq_true, Bool.and_eq_true (b := _ && bmB _ _), Bool.and_eq_true (b := bmB _ _), decide_eq_true_eq] at h
  obtain ⟨⟨h1, rfl, h2⟩, h3⟩ := h
  have A := sndE m c hK h3 ok
  subst hK
  exact ⟨ps_expr (bm_ext c h1 h2 h3 A.1) (swap_none rfl), fun C z1 z2 z3 => by have A2 := A.2 C z1 z2 z3; rw [← z1] at A2 ⊢; exact ds_ext A2⟩
theorem s_appPop {i j : Nat} {m : E} {s : Stmt} (c : Ctx X sc N ca zx L W) (hK : X.K = K) (h : chkS N sc (.appPop i j m) s = true) (ok : OkS (kns X ca L) (.appPop i j m)) : Snd X K ca zx W (.appPop i j m) s := by
  unfold chkS at h
  split at h <;> first | (cases h; done) | skip
  all_goals simp only [reduceCtorEq, S.appPop.injEq] at *
  rename_i e0
  obtain ⟨e1, e2, e3⟩ := e0
  subst e1 e2 e3
  rw [Bool.and_eq_true, Bool.and_eq_true (b := _ && (_ && _)), Bool.and_eq_true (b := (_ && bmB _ _) && _), Bool.and_eq_true (b := _ && bmB _ _), Bool.and_eq_true (b := bmB _ _), Bool.and_eq_true (b := bmB _ _), decide_eq_true_eq, decide_eq_true_eq] at h
  obtain ⟨⟨h1, h2, ⟨rfl, h3⟩, rfl, h4⟩, h5⟩ := h
  have A := sndE m c hK h5 ok
  subst hK
  refine ⟨ps_expr (pe_bm PySem.F.plainAttrs_list PySem.F.slot_list_append PySem.F.type_list_append mt_append (ctx_var c h1) (pa_cons (bm_popAt c h2 h4 h5 A.1) pa_nil rfl) rfl rfl h3 rfl rfl) (swap_none rfl), fun C z1 z2 z3 => by have A2 := A.2 C z1 z2 z3; rw [← z1] at A2 ⊢; exact ds_appPop A2⟩
theorem s_rot {i : Nat} {m : E} {s : Stmt} (c : Ctx X sc N ca zx L W) (hK : X.K = K) (h : chkS N sc (.rot i m) s = true) (ok : OkS (kns X ca L) (.rot i m)) : Snd X K ca zx W (.rot i m) s := by
  unfold chkS at h
  split at h <;> first | (cases h; done) | skip
  all_goals simp only [reduceCtorEq, S.rot.injEq] at *
  rename_i e0
  obtain ⟨e1, e2⟩ := e0
  subst e1 e2
  rw [Bool.and_eq_true, Bool.and_eq_true (b := _ && (_ && _)), Bool.and_eq_true (b := (_ && bmB _ _) && _), Bool.and_eq_true (b := _ && bmB _ _), Bool.and_eq_true (b := bmB _ _), Bool.and_eq_true (b := bmB _ _), decide_eq_true_eq, decide_eq_true_eq] at h
  obtain ⟨⟨h1, h2, ⟨rfl, h3⟩, rfl, h4⟩, h5⟩ := h
  have A := sndE m c hK h5 ok
  subst hK
  refine ⟨ps_expr (pe_bm PySem.F.plainAttrs_list PySem.F.slot_list_append PySem.F.type_list_append mt_append (ctx_var c h1) (pa_cons (bm_popAt c h2 h4 h5 A.1) pa_nil rfl) rfl rfl h3 rfl rfl) (swap_none rfl), fun C z1 z2 z3 => by have A2 := A.2 C z1 z2 z3; rw [← z1] at A2 ⊢; exact ds_rot A2⟩
theorem s_popAt {i : Nat} {m : E} {s : Stmt} (c : Ctx X sc N ca zx L W) (hK : X.K = K) (h : chkS N sc (.popAt i m) s = true) (ok : OkS (kns X ca L) (.popAt i m)) : Snd X K ca zx W (.popAt i m) s := by
  unfold chkS at h
  split at h <;> first | (cases h; done) | skip
  all_goals simp only [reduceCtorEq, S.popAt.injEq] at *
  rename_i e0
  obtain ⟨e1, e2⟩ := e0
  subst e1 e2
  rw [Bool.and_eq_true, Bool.and_eq_true (b := _ && bmB _ _), Bool.and_eq_true (b := bmB _ _), decide_eq_true_eq] at h
  obtain ⟨⟨h1, rfl, h2⟩, h3⟩ := h
  have A := sndE m c hK h3 ok
  subst hK
  exact ⟨ps_expr (bm_popAt c h1 h2 h3 A.1) (swap_none rfl), fun C z1 z2 z3 => by have A2 := A.2 C z1 z2 z3; rw [← z1] at A2 ⊢; exact ds_popAt A2⟩
theorem s_pop {i j : Nat} {s : Stmt} (c : Ctx X sc N ca zx L W) (hf : ∀ x, X.fn x = true) (hK : X.K = K) (h : chkS N sc (.pop j i) s = true) : Snd X K ca zx W (.pop j i) s := by
  unfold chkS at h
  split at h <;> first | (cases h; done) | skip
  all_goals simp only [reduceCtorEq, S.pop.injEq] at *
  rename_i e0
  obtain ⟨e1, e2⟩ := e0
  subst e1 e2
  rw [Bool.and_eq_true, Bool.and_eq_true (b := _ && bmB _ _), Bool.and_eq_true (b := bmB _ _), decide_eq_true_eq] at h
  obtain ⟨⟨h1, rfl, h2⟩, h3⟩ := h
  have h4 := h3
  rw [Bool.and_eq_true] at h4
  subst hK
  exact ⟨ps_asg (bm_pop c h1 h2) (pg_nm c (fun _ => hf) h3) (swap_sole rfl) rfl rfl, fun C z1 z2 z3 => by rw [← z1]; exact ds_pop⟩
theorem s_popd {i : Nat} {s : Stmt} (c : Ctx X sc N ca zx L W) (hK : X.K = K) (h : chkS N sc (.popd i) s = true) : Snd X K ca zx W (.popd i) s := by
  unfold chkS at h
  split at h <;> first | (cases h; done) | skip
  all_goals simp only [reduceCtorEq, S.popd.injEq] at *
  subst ‹i = _›
  rw [Bool.and_eq_true (b := _ && bmB _ _), Bool.and_eq_true (b := bmB _ _), decide_eq_true_eq] at h
  obtain ⟨h1, rfl, h2⟩ := h
  subst hK
  exact ⟨ps_expr (bm_pop c h1 h2) (swap_none rfl), fun C z1 z2 z3 => by rw [← z1]; exact ds_popd⟩
theorem s_rev {i : Nat} {s : Stmt} (c : Ctx X sc N ca zx L W) (hK : X.K = K) (h : chkS N sc (.rev i) s = true) : Snd X K ca zx W (.rev i) s := by
  unfold chkS at h
  split at h <;> first | (cases h; done) | skip
  all_goals simp only [reduceCtorEq, S.rev.injEq] at *
  subst ‹i = _›
  rw [Bool.and_eq_true (b := _ && bmB _ _), Bool.and_eq_true (b := bmB _ _), decide_eq_true_eq] at h
  obtain ⟨h1, rfl, h2⟩ := h
  subst hK
  exact ⟨ps_expr (bm_rev c h1 h2) (swap_none rfl), fun C z1 z2 z3 => by rw [← z1]; exact ds_rev⟩
theorem s_clear {i : Nat} {s : Stmt} (c : Ctx X sc N ca zx L W) (hK : X.K = K) (h : chkS N sc (.clear i) s = true) : Snd X K ca zx W (.clear i) s := by
  unfold chkS at h
  split at h <;> first | (cases h; done) | skip
  all_goals simp only [reduceCtorEq, S.clear.injEq] at *
  subst ‹i = _›
  rw [Bool.and_eq_true (b := _ && bmB _ _), Bool.and_eq_true (b := bmB _ _), decide_eq_true_eq] at h
  obtain ⟨h1, rfl, h2⟩ := h
  subst hK
  exact ⟨ps_expr (bm_clear c h1 h2) (swap_none rfl), fun C z1 z2 z3 => by rw [← z1]; exact ds_clear⟩
theorem s_expr {m : E} {s : Stmt} (c : Ctx X sc N ca zx L W) (hK : X.K = K) (h : chkS N sc (.expr m) s = true) (ok : OkS (kns X ca L) (.expr m)) : Snd X K ca zx W (.expr m) s := by
  unfold chkS at h
  split at h <;> first | (cases h; done) | skip
  all_goals simp only [reduceCtorEq, S.expr.injEq] at *
  subst ‹m = _›
  simp only [Bool.and_eq_true, Bool.not_eq_true'] at h
  have A := sndE m c hK h.2 ok
  exact ⟨ps_expr A.1 (swap_none h.1), fun C z1 z2 z3 => ds_expr (A.2 C z1 z2 z3)⟩
theorem s_ret {m : E} {s : Stmt} (c : Ctx X sc N ca zx L W) (hK : X.K = K) (h : chkS N sc (.ret m) s = true) (ok : OkS (kns X ca L) (.ret m)) : Snd X K ca zx W (.ret m) s := by
  unfold chkS at h
  split at h <;> first | (cases h; done) | skip
  all_goals simp only [reduceCtorEq, S.ret.injEq] at *
  subst ‹m = _›
  have A := sndE m c hK h ok
  exact ⟨ps_ret A.1, fun C z1 z2 z3 => ds_ret (A.2 C z1 z2 z3)⟩
theorem s_retv {i : Nat} {s : Stmt} (c : Ctx X sc N ca zx L W) (hK : X.K = K) (h : chkS N sc (.retv i) s = true) : Snd X K ca zx W (.retv i) s := by
  unfold chkS at h
  split at h <;> first | (cases h; done) | skip
  all_goals simp only [reduceCtorEq, S.retv.injEq] at *
  subst ‹i = _›
  exact ⟨ps_ret (ctx_var c h), fun C z1 z2 z3 => ds_retv⟩
theorem s_raise {x : Str} {s : Stmt} (c : Ctx X sc N ca zx L W) (hK : X.K = K) (h : chkS N sc (.raise x .none) s = true) (ok : Both (ExK X ca x) (x ∈ ca.l)) : Snd X K ca zx W (.raise x .none) s := by
  unfold chkS at h
  split at h <;> first | (cases h; done) | skip
  all_goals simp only [reduceCtorEq, S.raise.injEq] at *
  rotate_left
  · exact (‹_ ∧ False›.2).elim
  obtain ⟨e1, _⟩ := ‹x = _ ∧ _›
  subst e1
  simp only [Bool.and_eq_true, decide_eq_true_eq, Bool.not_eq_true'] at h
  obtain ⟨hh, rfl, h⟩ := h
  obtain ⟨⟨B, nI, iI, bm, F, q1, q2, q3, q4⟩, hcl⟩ := ok
  obtain ⟨g1, g2, g3⟩ := gl_of c.hsc h
  exact ⟨ps_raise (c.calm hh) c.tk (pmk_own F q1 q2 q3 q4 g1 g2), fun C z1 z2 z3 => by subst z2; exact ds_raise hcl⟩
theorem s_raiseI {x : Str} {m : E} {s : Stmt} (c : Ctx X sc N ca zx L W) (hK : X.K = K) (h : chkS N sc (.raise x (.some m)) s = true) (ok : OkS (kns X ca L) (.raise x (.some m))) : Snd X K ca zx W (.raise x (.some m)) s := by
  unfold chkS at h
  split at h <;> first | (cases h; done) | skip
  all_goals simp only [reduceCtorEq, S.raise.injEq, Eo.some.injEq] at *
  · exact (‹_ ∧ False›.2).elim
  obtain ⟨e1, e2⟩ := ‹x = _ ∧ _›
  subst e1 e2
  simp only [Bool.and_eq_true, decide_eq_true_eq, Bool.not_eq_true'] at h
  obtain ⟨⟨hh, rfl, h⟩, h3⟩ := h
  obtain ⟨⟨⟨I, hcl⟩, hL⟩, ok2⟩ := ok
  obtain ⟨g1, g2, g3⟩ := gl_of c.hsc h
  have A := sndE m c hK h3 ok2
  have hno : OexC X.K (ca x) ∧ PySem.W.findIn X.K (.ref (ca x)) (fldC x) = some none := by
    obtain ⟨_, _, _, T, _, _, _, _, _, hno⟩ := I
    exact ⟨T, hno⟩
  subst hK
  exact ⟨ps_raise (c.calm hh) c.tk (pmk_I ((c.room hh).mono hL) I g1 A.1 (star1 h3) g2), fun C z1 z2 z3 => by have A2 := A.2 C z1 z2 z3; subst z2; rw [← z1] at A2 hno ⊢; exact ds_raiseI A2 hno.1 hno.2 hcl⟩
theorem few2 {m m2 : E} {k v : Expr} {env : PySem.Env} {cp : Pos} (h : chkE N sc m k = true) (h2 : chkE N sc m2 v = true) : ((backTo cp (starEach [k, v] env)).all (fun x => !x.1) && (backToKw cp (keywordEach [] env)).all (fun x => x.1.isSome)
      && decide (([k, v] : List Expr).length + ([] : List Keyword).length + (if ([] : List Keyword).isEmpty then 0 else 1) < 30)) = true := by
  rw [chk_notStar h [v] env, star1 h2]
  rfl
theorem s_ins {i : Nat} {n m : E} {s : Stmt} (c : Ctx X sc N ca zx L W) (hK : X.K = K) (h : chkS N sc (.ins i n m) s = true) (ok : OkS (kns X ca L) (.ins i n m)) : Snd X K ca zx W (.ins i n m) s := by
  unfold chkS at h
  split at h <;> first | (cases h; done) | skip
  all_goals simp only [reduceCtorEq, S.ins.injEq] at *
  rename_i e0
  obtain ⟨e1, e2, e3⟩ := e0
  subst e1 e2 e3
  rw [Bool.and_eq_true, Bool.and_eq_true (b := _ && bmB _ _), Bool.and_eq_true (b := bmB _ _), decide_eq_true_eq, Bool.and_eq_true (b := chkE _ _ _ _)] at h
  obtain ⟨⟨h1, rfl, h2⟩, h3, h4⟩ := h
  have A := sndE n c hK h3 ok.1
  have B := sndE m c hK h4 ok.2
  subst hK
  exact ⟨ps_expr (pe_bm PySem.F.plainAttrs_list PySem.F.slot_list_insert PySem.F.type_list_insert mt_insert (ctx_var c h1) (pa_cons A.1 (pa_cons B.1 pa_nil (star1 h4)) (chk_notStar h3 _ _)) rfl (few2 h3 h4) h2 (chk_notStar h3 _ _) (by rw [star1 h4]; rfl)) (swap_none rfl),
    fun C z1 z2 z3 => by have A2 := A.2 C z1 z2 z3; have B2 := B.2 C z1 z2 z3; rw [← z1] at A2 B2 ⊢; exact ds_ins A2 B2⟩
end
end Dv

namespace Dv
open PySem PySem.Spec PyProof.Rows L2
section
variable {N : Nm} {K : PySem.W.Frag} {ca : CaL} {zx : ZX}
theorem inv_iff {sc : Scope} {m : E} {a b : Ss} {s : Stmt} (h : chkS N sc (.iff m a b) s = true) : ∃ e u v p, s = .If e u v p ∧ chkE N sc m e = true ∧ chkSs N sc a u = true ∧ chkSs N sc b v = true := by
  unfold chkS at h
  split at h <;> first | (cases h; done) | skip
  all_goals simp only [reduceCtorEq, S.iff.injEq] at *
  obtain ⟨e1, e2, e3⟩ := ‹m = _ ∧ _›
  subst e1 e2 e3
  simp only [Bool.and_eq_true] at h
  exact ⟨_, _, _, _, rfl, h⟩
theorem inv_whl {sc : Scope} {m : E} {a : Ss} {s : Stmt} (h : chkS N sc (.whl m a) s = true) : N.hot = false ∧ ∃ e u p, s = .While e u [] p ∧ chkE N sc m e = true ∧ chkSs N sc a u = true := by
  unfold chkS at h
  split at h <;> first | (cases h; done) | skip
  all_goals simp only [reduceCtorEq, S.whl.injEq] at *
  obtain ⟨e1, e2⟩ := ‹m = _ ∧ _›
  subst e1 e2
  simp only [Bool.and_eq_true, Bool.not_eq_true'] at h
  exact ⟨h.1.1, _, _, _, rfl, h.1.2, h.2⟩
theorem inv_for {sc : Scope} {t : Tg} {it : Dv.It} {a : Ss} {s : Stmt} (h : chkS N sc (.for t it a) s = true) : N.hot = false ∧ ∃ tg e u p, s = .For tg e u [] p ∧ tgB true sc N t tg = true ∧ noSet e = true ∧ chkIt N sc it tg e = true ∧ chkSs N sc a u = true := by
  unfold chkS at h
  split at h <;> first | (cases h; done) | skip
  all_goals simp only [reduceCtorEq, S.for.injEq] at *
  obtain ⟨e1, e2, e3⟩ := ‹t = _ ∧ _›
  subst e1 e2 e3
  simp only [Bool.and_eq_true, Bool.not_eq_true'] at h
  exact ⟨h.1.1, _, _, _, _, rfl, h.1.2.1, h.1.2.2, h.2⟩
theorem inv_tri {sc : Scope} {a : Ss} {hs : Hs} {s : Stmt} (h : chkS N sc (.tri a hs) s = true) : N.hot = false ∧ ∃ u x hds p, s = .Try u (x :: hds) [] [] p ∧ chkSs N sc a u = true ∧ chkHs N sc hs (x :: hds) = true := by
  unfold chkS at h
  split at h <;> first | (cases h; done) | skip
  all_goals simp only [reduceCtorEq, S.tri.injEq] at *
  obtain ⟨e1, e2⟩ := ‹a = _ ∧ _›
  subst e1 e2
  simp only [Bool.and_eq_true, Bool.not_eq_true'] at h
  exact ⟨h.1, _, _, _, _, rfl, h.2⟩
theorem inv_hs {sc : Scope} {c : Str} {o : Option Nat} {b : Ss} {hs : Hs} {l : List ExceptHandler} (h : chkHs N sc (.cons c o b hs) l = true) : ∃ p n s ss q hds, l = .ExceptHandler (some (.Name c p)) n (s :: ss) q :: hds ∧ glB sc c = true ∧
    ((o = none ∧ n = none) ∨ ∃ i x, o = some i ∧ n = some x ∧ nmB N i x = true ∧ lclB sc x = true) ∧ chkSs ⟨N.l, true⟩ sc b (s :: ss) = true ∧ chkHs N sc hs hds = true := by
  unfold chkHs at h
  split at h <;> first | (cases h; done) | skip
  all_goals simp only [reduceCtorEq, Hs.cons.injEq] at *
  obtain ⟨e1, e2, e3, e4⟩ := ‹c = _ ∧ _›
  subst e1 e2 e3 e4
  simp only [Bool.and_eq_true, decide_eq_true_eq] at h
  obtain ⟨⟨rfl, h1⟩, h2, h3, h4⟩ := h
  refine ⟨_, _, _, _, _, _, rfl, h1, ?_, h3, h4⟩
  split at h2
  · exact .inl ⟨rfl, rfl⟩
  · rw [Bool.and_eq_true] at h2
    exact .inr ⟨_, _, rfl, rfl, h2⟩
  · cases h2
theorem s_pass {X : Cx} {W : WX} {sc : Scope} {s : Stmt} (h : chkS N sc .pass s = true) : Snd X K ca zx W .pass s := by
  unfold chkS at h
  split at h <;> first | (cases h; done) | skip
  all_goals simp only [reduceCtorEq] at *
  · exact ⟨ps_pass, fun C _ _ _ => ds_nil⟩
  · exact ⟨ps_doc, fun C _ _ _ => ds_nil⟩
theorem s_brk {X : Cx} {W : WX} {sc : Scope} {s : Stmt} (h : chkS N sc .brk s = true) : Snd X K ca zx W .brk s := by
  unfold chkS at h
  split at h <;> first | (cases h; done) | skip
  all_goals simp only [reduceCtorEq] at *
  exact ⟨ps_break, fun C _ _ _ => ds_brk⟩
theorem s_cont {X : Cx} {W : WX} {sc : Scope} {s : Stmt} (h : chkS N sc .cont s = true) : Snd X K ca zx W .cont s := by
  unfold chkS at h
  split at h <;> first | (cases h; done) | skip
  all_goals simp only [reduceCtorEq] at *
  exact ⟨ps_continue, fun C _ _ _ => ds_cont⟩
theorem s_bad {m : S} {X : Cx} {W : WX} {s : Stmt} (h : rdS K ca zx W m = fun _ _ _ => False) (hw : wpS m = fun _ _ => False) : Snd X K ca zx W m s := by
  unfold Snd
  rw [h, hw]
  exact ⟨bad_s, bad_ds⟩
mutual
theorem sndS : ∀ (m : S) {N : Nm} {zx : ZX} {X : Cx} {sc : Scope} {L : Nat} {W : WX} {s : Stmt}, CtxS X sc N ca zx L W → X.K = K → chkS N sc m s = true → OkS (kns X ca L) m → Snd X K ca zx W m s
  | .asg t e, N, zx, X, sc, L, W, s, c, hK, h, ok => s_asg c.toCtx c.fn hK h ok
  | .par i j a b, N, zx, X, sc, L, W, s, c, hK, h, ok => s_par c.toCtx hK h ok
  | .par3 i j l a b d, N, zx, X, sc, L, W, s, c, hK, h, ok => s_par3 c.toCtx hK h ok
  | .aug i e, N, zx, X, sc, L, W, s, c, hK, h, ok => s_aug c.toCtx c.fn hK h ok
  | .augIx i n e, N, zx, X, sc, L, W, s, c, hK, h, ok => s_augIx c.toCtx hK h ok
  | .augAt _ _ _ _, N, zx, X, sc, L, W, s, c, hK, h, ok => by simp [chkS] at h
  | .setIx i n e, N, zx, X, sc, L, W, s, c, hK, h, ok => s_setIx c.toCtx hK h ok
  | .app i e, N, zx, X, sc, L, W, s, c, hK, h, ok => s_app c.toCtx hK h ok
  | .ext i e, N, zx, X, sc, L, W, s, c, hK, h, ok => s_ext c.toCtx hK h ok
  | .appPop i j e, N, zx, X, sc, L, W, s, c, hK, h, ok => s_appPop c.toCtx hK h ok
  | .pop j i, N, zx, X, sc, L, W, s, c, hK, h, ok => s_pop c.toCtx c.fn hK h
  | .rot i e, N, zx, X, sc, L, W, s, c, hK, h, ok => s_rot c.toCtx hK h ok
  | .popAt i e, N, zx, X, sc, L, W, s, c, hK, h, ok => s_popAt c.toCtx hK h ok
  | .popd i, N, zx, X, sc, L, W, s, c, hK, h, ok => s_popd c.toCtx hK h
  | .rev i, N, zx, X, sc, L, W, s, c, hK, h, ok => s_rev c.toCtx hK h
  | .clear i, N, zx, X, sc, L, W, s, c, hK, h, ok => s_clear c.toCtx hK h
  | .expr e, N, zx, X, sc, L, W, s, c, hK, h, ok => s_expr c.toCtx hK h ok
  | .ret e, N, zx, X, sc, L, W, s, c, hK, h, ok => s_ret c.toCtx hK h ok
  | .retv i, N, zx, X, sc, L, W, s, c, hK, h, ok => s_retv c.toCtx hK h
  | .raise x .none, N, zx, X, sc, L, W, s, c, hK, h, ok => s_raise c.toCtx hK h ok
  | .raise x (.some a), N, zx, X, sc, L, W, s, c, hK, h, ok => s_raiseI c.toCtx hK h ok
  | .pass, N, zx, X, sc, L, W, s, c, hK, h, ok => s_pass h
  | .brk, N, zx, X, sc, L, W, s, c, hK, h, ok => s_brk h
  | .cont, N, zx, X, sc, L, W, s, c, hK, h, ok => s_cont h
  | .nev, N, zx, X, sc, L, W, s, c, hK, h, ok => s_bad rfl rfl
  | .ins i n e, N, zx, X, sc, L, W, s, c, hK, h, ok => s_ins c.toCtx hK h ok
  | .frz _, N, zx, X, sc, L, W, s, c, hK, h, ok => by simp [chkS] at h
  | .wreck _ _ _, N, zx, X, sc, L, W, s, c, hK, h, ok => by simp [chkS] at h
  | .iff m a b, N, zx, X, sc, L, W, s, c, hK, h, ok => by
    obtain ⟨e, u, v, p, rfl, h1, h2, h3⟩ := inv_iff h
    have M := sndT m c.toCtx hK h1 ok.1
    have A := sndSs a c hK h2 ok.2.1
    have B := sndSs b c hK h3 ok.2.2
    exact ⟨ps_if M.1 A.1 B.1, fun C z1 z2 z3 => ds_iff (M.2 C z1 z2 z3) (A.2 C z1 z2 z3) (B.2 C z1 z2 z3)⟩
  | .whl m a, N, zx, X, sc, L, W, s, c, hK, h, ok => by
    obtain ⟨hh, e, u, p, rfl, h1, h2⟩ := inv_whl h
    have M := sndT m c.toCtx hK h1 ok.1
    have A := sndSs a c hK h2 ok.2
    exact ⟨ps_while c.po M.1 A.1, fun C z1 z2 z3 => ds_whl (M.2 C z1 z2 z3) (A.2 C z1 z2 z3)⟩
  | .for t it a, N, zx, X, sc, L, W, s, c, hK, h, ok => by
    obtain ⟨hh, tg, e, u, p, rfl, h1, h2, h3, h4⟩ := inv_for h
    have I := sndIt it c.toCtx hK h3 ok.1
    have A := sndSs a c hK h4 ok.2
    refine ⟨ps_for c.po (c.calm hh) I.1 (pg_of c.toCtx (.inl (c.calm hh)) (fun _ => c.fn) hK h1) A.1 (noFold h2 _), fun C z1 z2 z3 => ?_⟩
    have I2 := (I.2 C z1 z2 z3).1
    have A2 := A.2 C z1 z2 z3
    show DS C W (tFor (rdIt K ca zx W it) (rdTg K t) (rdSs K ca zx W a)) _
    rw [← z1] at I2 A2 ⊢
    exact ds_for I2 A2
  | .tri b hs, N, zx, X, sc, L, W, s, c, hK, h, ok => by
    obtain ⟨hh, u, x, hds, p, rfl, h1, h2⟩ := inv_tri h
    have HS := sndHs hs c hh hK h2 ok.1 ok.2.2
    refine ⟨?_, fun C z1 z2 z3 => ?_⟩
    · have B0 : ∀ (W' : WX) (pn : List (Addr × Obj)) (xe : Value → Shared → Prop), Takes (X.tr pn xe) W' → PassesOwn (model X.prog X.w) X.A X.env xe → PSs (X.tr pn xe) u (rdSs K ca zx W' b) := fun W' pn xe tk po => by
        have c' : CtxS (X.tr pn xe) sc N ca zx L W' := ⟨⟨c.hN, c.nd, c.hsc, c.calm, c.room, c.un, fun a d c' z => (c.nz hh a d c' z).elim, c.nz, tk, c.kd⟩, po, c.fn, c.stk, c.frm⟩
        exact (sndSs b c' hK h1 ok.2.1).1
      have H1 := HS.1
      subst hK
      show PS X _ (fun D σ H => rdSs X.K ca zx (wCls X.K W D (rdHs X.K ca hs)) b D σ H)
      exact ps_try_cls (tb := fun W' => rdSs X.K ca zx W' b) (c.stk hh) c.frm (ctx_nd c.toCtx) c.tk B0 H1
    · have nz : ∀ a d c', ¬ C.Z a d c' := fun a d c' z => c.nz hh a d c' (z3 a d c' z)
      show DS C W (fun D σ H => rdSs K ca zx (wCls K W D (rdHs K ca hs)) b D σ H) (fun k env => wpSs b { k with ex := wpHs hs k } env)
      have HH := HS.2 C z1 z2
      rw [← z1] at HH ⊢
      refine ds_try (tb := fun W' => rdSs C.K ca zx W' b) nz ?_ (fun W' => ?_) HH
      · rw [z1, z2, ← hK]
        exact ok.1.exm
      · obtain ⟨xe, tk, po⟩ := takes_any W' (c.stk hh) c.frm
        have c' : CtxS (X.tr [] xe) sc N ca zx L W' := ⟨⟨c.hN, c.nd, c.hsc, c.calm, c.room, c.un, fun a d c' z => (c.nz hh a d c' z).elim, c.nz, tk, c.kd⟩, po, c.fn, c.stk, c.frm⟩
        rw [z1]
        exact (sndSs b c' hK h1 ok.2.1).2 C z1 z2 z3
theorem sndHs : ∀ (hs : Hs) {N : Nm} {zx : ZX} {X : Cx} {sc : Scope} {L : Nat} {W : WX} {l : List ExceptHandler}, CtxS X sc N ca zx L W → N.hot = false → X.K = K → chkHs N sc hs l = true → ErrK X.K ca X.mg → OkHs (kns X ca L) hs → ClOk X l (rdHs K ca hs) ∧ ∀ C : Cc, C.K = K → C.ca = ca → HsOk C hs (rdHs K ca hs)
  | .nil, N, zx, X, sc, L, W, l, c, hh, hK, h, er, ok => by
    cases l with
    | nil => exact ⟨.nil, fun _ _ _ => trivial⟩
    | cons _ _ => simp [chkHs] at h
  | .cons t o b hs, N, zx, X, sc, L, W, l, c, hh, hK, h, er, ok => by
    obtain ⟨p, n, s, ss, q, hds, rfl, h1, h2, h3, h4⟩ := inv_hs h
    have R := sndHs hs c hh hK h4 er ok.2.2
    have ht : t ∈ ca.l := ok.1.1.resolve_right fun z => ok.1.2 z.1
    obtain ⟨g1, g2, g3⟩ := gl_of c.hsc h1
    have su : ∀ (a : Addr) (oe : Obj) (cls : Value) (d : Option Addr) (pn : List (Addr × Obj)), Zc cls d oe → (∃ vs, oe.data = .fields vs) → CtxS (X.suite a ((a, oe) :: pn)) sc ⟨N.l, true⟩ ca (zOf ca a cls d) L W0 := fun a oe cls d pn z f =>
      ⟨⟨c.hN, c.nd, c.hsc, (fun z => by cases z), (fun z => by cases z), c.un, (fun a' d' c' zz => by
        obtain ⟨rfl, rfl, hc, rfl⟩ := zz
        exact ⟨hc, X, oe, pn, rfl, z, f⟩), (fun z => by cases z), takes0, c.kd⟩, PassesOwn.never, c.fn, (fun z => by cases z), c.frm⟩
    have S := fun a oe cls d pn z f => sndSs b (su a oe cls d pn z f) hK h3 ok.2.1
    refine ⟨?_, fun C z1 z2 => ⟨⟨by rw [z2], by rw [z2]; exact ht, rfl, fun a cls d => ?_⟩, R.2 C z1 z2⟩⟩
    · rcases h2 with ⟨rfl, rfl⟩ | ⟨i, x, rfl, rfl, e1, e2⟩
      · exact .plain g1 g2 (er.nm t ht) (fun a oe cls d pn z f => (S a oe cls d pn z f).1) R.1
      · exact .named g1 g2 (er.nm t ht) (ctx_nm c.toCtx e1) (ctx_lcl c.toCtx e2) (fun a oe cls d pn z f => (S a oe cls d pn z f).1) R.1
    · have o : Obj := ⟨cls, d, .fields #[], #[]⟩
      have := (S a ⟨cls, d, .fields #[], #[]⟩ cls d [] ⟨rfl, rfl⟩ ⟨_, rfl⟩).2 (C.hot (zOf C.ca a cls d)) z1 z2 (fun a' d' c' z => by rw [← z2]; exact z)
      exact this
theorem sndSs : ∀ (ms : Ss) {N : Nm} {zx : ZX} {X : Cx} {sc : Scope} {L : Nat} {W : WX} {ss : List Stmt}, CtxS X sc N ca zx L W → X.K = K → chkSs N sc ms ss = true → OkSs (kns X ca L) ms → PSs X ss (rdSs K ca zx W ms) ∧ DSk K ca zx W (rdSs K ca zx W ms) (wpSs ms)
  | .nil, N, zx, X, sc, L, W, ss, c, hK, h, ok => by
    cases ss with
    | nil => exact ⟨pss_nil, fun C _ _ _ => ds_nil⟩
    | cons _ _ => simp [chkSs] at h
  | .cons m ms, N, zx, X, sc, L, W, ss, c, hK, h, ok => by
    by_cases hf : ∃ i, m = .frz i
    · obtain ⟨i, rfl⟩ := hf
      have h' : chkSs N sc ms ss = true := by simpa only [chkSs] using h
      have B := sndSs ms c hK h' ok.2
      exact ⟨B.1, fun C z1 z2 z3 => ds_frz (B.2 C z1 z2 z3)⟩
    · cases ss with
      | nil => cases m <;> first | (simp [chkSs] at h; done) | exact absurd ⟨_, rfl⟩ hf
      | cons s ss =>
        have h' : chkS N sc m s = true ∧ chkSs N sc ms ss = true := by
          cases m <;> first | (simpa only [chkSs, Bool.and_eq_true] using h) | exact absurd ⟨_, rfl⟩ hf
        have A := sndS m c hK h'.1 ok.1
        have B := sndSs ms c hK h'.2 ok.2
        have e : rdSs K ca zx W (.cons m ms) = tSeq (rdS K ca zx W m) (rdSs K ca zx W ms) := by
          cases m <;> first | rfl | exact absurd ⟨_, rfl⟩ hf
        rw [e]
        exact ⟨pss_cons A.1 B.1, fun C z1 z2 z3 => (ds_cons (A.2 C z1 z2 z3) (B.2 C z1 z2 z3) : DS C W (tSeq (rdS K ca zx W m) (rdSs K ca zx W ms)) (fun k env => wpS m { k with nx := wpSs ms k } env))⟩
end
end
end Dv

namespace Dv
open PySem PySem.Spec PyProof.Rows L2
/-! ### what changes lists that others may hold: the others are forgotten -/
section
variable {C : Cc} {W : WX} {O : Addr → Prop} {H Hb : Hp}
/-- at the top of a def: nothing but the caller's heap must stay -/
def DS0 (C : Cc) (W : WX) (t : TS) (w : Ko → En → Prop) : Prop := ∀ env σ H (k : Ko) (D : Ends), RelO C C.H0 env σ H → Cmp C W C.H0 k D → w k env → t D σ H
theorem ds0_of {t : TS} {w : Ko → En → Prop} (h : DS C W t w) : DS0 C W t w := fun env σ H k D R c q => h C.H0 env σ H k D R c q
theorem ds0_cons {ta tb : TS} {wa wb : Ko → En → Prop} (ha : DS0 C W ta wa) (hb : DS0 C W tb wb) : DS0 C W (tSeq ta tb) (fun k env => wa { k with nx := wb k } env) := by
  intro env σ H k D R c h
  exact ha env σ H { k with nx := wb k } _ R ⟨fun e σ' H' R' z => hb e σ' H' k D R' c z, c.bk, c.ct, c.rt, c.ex⟩ h
theorem ds0_frz {tb : TS} {wb : Ko → En → Prop} {i : Nat} (hb : DS0 C W tb wb) : DS0 C W tb (fun k env => wb k (frzE env i)) := fun env σ H k D R c h => hb _ σ H k D (R.frz i) c h
/-- two contexts that tell the same of what is outside -/
structure Alike (C C2 : Cc) : Prop where
  k : C2.K = C.K
  s : C2.S = C.S
  z : C2.Z = C.Z
  h : C2.H0 = C.H0
theorem Alike.refl : Alike C C := ⟨rfl, rfl, rfl, rfl⟩
theorem OwnR.calm {C2 : Cc} (al : Alike C C2) {P P' : Addr → Prop} {a : Addr} {d : D} (h : OwnR C P H a d) (hc : d.calmO = true) : OwnR C2 P' H a d := by
  cases d with
  | lst ds =>
    obtain ⟨vs, e, t⟩ := h
    exact ⟨vs, e, t.1, fun i d v e1 e2 => ((t.2 i d v e1 e2).pure (pureL_get hc e1) : Rep C _ H d v).ctx al.k fun a ns z => by rw [al.s]; exact z⟩
  | dic kvs =>
    obtain ⟨vs, e, t⟩ := h
    exact ⟨vs, e, t.1, fun i d v e1 e2 => ((t.2 i d v e1 e2).pure (pureL_get hc e1) : Rep C _ H d v).ctx al.k fun a ns z => by rw [al.s]; exact z⟩
  | _ => exact h
theorem SlR.calm {C2 : Cc} (al : Alike C C2) {O O' : Addr → Prop} {H' : Hp} {s : Sl} {x : Option (Option V)} (h : SlR C O H s x) (hc : s.calm = true) (k : Keep (fun _ => False) H H') (ho : ∀ a f d, s = .o f d → x = some (some (.ref a)) → ∀ o, H a = some o → H' a = some o) : SlR C2 O' H' s x := by
  cases s with
  | e => trivial
  | v f d =>
    obtain ⟨v, e, hf, r⟩ := h
    have hc : d.pure = true := hc
    exact ⟨v, e, hf, (((r.pure hc : Rep C (fun _ => False) H d v).keep k).pure hc).ctx al.k fun a ns z => by rw [al.s]; exact z⟩
  | o f d =>
    obtain ⟨a, e, hf, r⟩ := h
    have hc : d.calmO = true := hc
    exact ⟨a, e, hf, ((r.calm al (P' := fun _ => False) hc).keep k (fun o => ho a f d rfl e o)).calm Alike.refl hc⟩
  | x c f as => obtain ⟨a, d, e, z, r⟩ := h; exact ⟨a, d, e, by rw [al.z]; exact z, r.keep k⟩
/-- a heap in which other lists have changed -/
theorem RelO.wreck {C2 : Cc} (al : Alike C C2) {env env' : En} {σ σ' : L2.St} {H' : Hp} (R : RelO C C.H0 env σ H) (hl : env'.length = σ'.length)
    (he : ∀ (j : Nat) (s : Sl), env'[j]? = some s → s = .e ∨ (env[j]? = some s ∧ σ'[j]? = σ[j]? ∧ s.calm = true)) (k : Keep (fun b => Own env σ b ∨ C.B b ∨ ∃ o, C.H0 b = some o) H H')
    (hb : ∀ a, C2.B a → C.B a ∨ ((∃ o, H' a = some (.lst o)) ∧ C.H0 a = none ∧ ¬ Own env' σ' a)) : RelO C2 C2.H0 env' σ' H' := by
  have own : ∀ a, Own env' σ' a → Own env σ a := by
    rintro a ⟨i, f, d, e1, e2⟩
    rcases he i _ e1 with z | ⟨z1, z2, _⟩
    · cases z
    · exact ⟨i, f, d, z1, by rw [← z2]; exact e2⟩
  refine ⟨hl, Same.refl _, fun b o e => ?_, fun a ns z => ?_, fun a z => ?_, fun a z => ?_, fun i j f d g e a e1 e2 e3 e4 => ?_, fun i s e => ?_⟩
  · rw [al.h] at e
    exact k.p b o (.inr (.inr ⟨o, e⟩)) (R.g b o e)
  · rw [al.s] at z
    rw [al.h, al.k]
    exact R.scr a ns z
  · rw [al.h]
    exact R.own a (own a z)
  · rw [al.h]
    rcases hb a z with z | z
    · obtain ⟨⟨o, e⟩, h2, h3⟩ := R.bus a z
      exact ⟨⟨o, k.p a _ (.inr (.inl z)) e⟩, h2, fun y => h3 (own a y)⟩
    · exact z
  · rcases he i _ e1 with z | ⟨z1, z2, _⟩
    · cases z
    rcases he j _ e2 with y | ⟨y1, y2, _⟩
    · cases y
    exact R.inj i j f d g e a z1 y1 (by rw [← z2]; exact e3) (by rw [← y2]; exact e4)
  · rcases he i s e with rfl | ⟨z1, z2, z3⟩
    · trivial
    · rw [z2]
      exact (R.sl i s z1).calm al z3 (k.imp fun _ z => z.elim) fun a f d q q2 o q3 => k.p a o (.inl ⟨i, f, d, q ▸ z1, q2⟩) q3
theorem wreck_get {env : En} {j : Nat} {s : Sl} (h : (wreckE env)[j]? = some s) : s = .e ∨ (env[j]? = some s ∧ s.calm = true) := by
  unfold wreckE at h
  rw [List.getElem?_map] at h
  cases e : env[j]? with
  | none => rw [e] at h; cases h
  | some z =>
    rw [e] at h
    have h : Sl.wr z = s := Option.some.inj h
    unfold Sl.wr at h
    split at h
    · rename_i q
      subst h
      exact .inr ⟨rfl, q⟩
    · exact .inl h.symm
theorem wreck_len (env : En) : (wreckE env).length = env.length := List.length_map ..
theorem wreck_calm {env : En} {j : Nat} {s : Sl} (h : (wreckE env)[j]? = some s) : s.calm = true := by
  rcases wreck_get h with rfl | h
  · rfl
  · exact h.2
theorem set_e {env : En} {i j : Nat} {s : Sl} (h : (env.set i .e)[j]? = some s) : s = .e ∨ env[j]? = some s := by
  rw [List.getElem?_set] at h
  split at h
  · split at h
    · exact .inl (Option.some.inj h).symm
    · cases h
  · exact .inr h
/-- an own list or a fresh one: a place to write at -/
theorem fresh_keep {env : En} {σ : L2.St} {a : Addr} {vs : List V} {o : HO} (h : H a = some (.lst vs)) (hp : Pf C (Own env σ) .fro a) : Keep (fun b => Own env σ b ∨ C.B b ∨ ∃ o, C.H0 b = some o) H (upd H a o) :=
  Keep.upd h (.inl ⟨_, rfl⟩) fun z => by
    rcases z with z | z | ⟨o, z⟩
    · exact hp.2.1 z
    · exact hp.1 z
    · rw [hp.2.2] at z; cases z
theorem ds0_wclear {i : Nat} : DS0 C W (tDrop (tBM0 C.K "list" rClear (tVar i))) (fun k env => clearW i k env) := by
  intro env σ H k D R c h
  have h : clearW i k env := h
  unfold clearW at h
  split at h
  case h_2 => exact h.elim
  rename_i ds e
  obtain ⟨v, ev, _, r⟩ := R.sl i _ e
  cases r with
  | lst p h1 hl he =>
    rename_i a vs
    refine ⟨_, ev, .inl ⟨rfl, vs, .inl (.inl h1)⟩, a, vs, rfl, rfl, h1, c.nx _ _ _ ?_ h⟩
    refine R.wreck Alike.refl (by rw [List.length_set, wreck_len, R.len]) (fun j s q => ?_) (fresh_keep h1 p) fun _ z => .inl z
    rcases set_e q with q | q
    · exact .inl q
    · rcases wreck_get q with q | q
      · exact .inl q
      · exact .inr ⟨q.1, rfl, q.2⟩
theorem ds0_wapp {i : Nat} {te : TE} {we : WpE} (he : DE C W te we) : DS0 C W (tDrop (tBM C.K "list" rAppend (tVar i) (tCons te tNil))) (fun k env => wappW i we k env) := by
  intro env σ H k D R c h
  have h : wappW i we k env := h
  unfold wappW at h
  split at h
  case h_2 => exact h.elim
  rename_i ds e
  obtain ⟨v, ev, _, r⟩ := R.sl i _ e
  cases r with
  | lst p h1 hl he' =>
    rename_i a vs
    refine ⟨_, ev, .inl ⟨rfl, vs, .inl (.inl h1)⟩, ?_⟩
    refine he C.H0 env σ H _ _ _ R (c.xok R) ?_ h
    intro u H1 r s1 p1 q
    have R1 := R.same s1
    refine ⟨_, vs, u, rfl, rfl, s1 _ _ h1, by rw [← hl, ← line_eq]; exact q.1, c.nx _ _ _ ?_ q.2⟩
    refine R1.wreck Alike.refl (by rw [List.length_set, wreck_len, R.len]) (fun j s q => ?_) (fresh_keep (s1 _ _ h1) p) fun _ z => .inl z
    rcases set_e q with q | q
    · exact .inl q
    · rcases wreck_get q with q | q
      · exact .inl q
      · exact .inr ⟨q.1, rfl, q.2⟩
/-- a list own again, where no other slot can hold it -/
theorem RelO.reown {env : En} {σ : L2.St} {i : Nat} {a : Addr} {ds : List Dv.D} {vs : List V} (R : RelO C C.H0 env σ H) (calm : ∀ (j : Nat) s, env[j]? = some s → s.calm = true) (hi : i < env.length) (hs : σ[i]? = some (some (V.ref a)))
    (ei : env[i]? = some .e) (hB : ¬ C.B a) (h0 : C.H0 a = none) (hno : ¬ Own env σ a) (h1 : H a = some (.lst vs)) (t : RepL C (fun b => Pf C (Own env σ) .fro b ∧ b ≠ a) H ds vs) : RelO C C.H0 (env.set i (.o .fro (.lst ds))) σ H := by
  have own : ∀ b, Own (env.set i (.o .fro (.lst ds))) σ b → Own env σ b ∨ b = a := by
    rintro b ⟨j, f, d, e1, e2⟩
    rw [List.getElem?_set] at e1
    by_cases hj : i = j
    · subst hj
      rw [hs] at e2
      cases e2
      exact .inr rfl
    · rw [if_neg hj] at e1
      exact .inl ⟨j, f, d, e1, e2⟩
  refine ⟨by rw [List.length_set]; exact R.len, Same.refl _, R.g, R.scr, fun b z => ?_, fun b z => ?_, fun j l f d g e b e1 e2 e3 e4 => ?_, fun j s e => ?_⟩
  · rcases own b z with z | rfl
    · exact R.own b z
    · exact h0
  · obtain ⟨z1, z2, z3⟩ := R.bus b z
    exact ⟨z1, z2, fun y => (own b y).elim z3 fun q => hB (q ▸ z)⟩
  · rw [List.getElem?_set] at e1 e2
    by_cases hj : i = j
    · by_cases hk : i = l
      · exact hj.symm.trans hk
      · rw [if_neg hk] at e2
        subst hj
        rw [hs] at e3
        cases e3
        exact absurd ⟨l, _, _, e2, e4⟩ hno
    · rw [if_neg hj] at e1
      by_cases hk : i = l
      · subst hk
        rw [hs] at e4
        cases e4
        exact absurd ⟨j, _, _, e1, e3⟩ hno
      · rw [if_neg hk] at e2
        exact R.inj j l f d g e b e1 e2 e3 e4
  · rw [List.getElem?_set] at e
    by_cases hj : i = j
    · subst hj
      rw [if_pos rfl, if_pos hi] at e
      cases e
      refine ⟨a, hs, by decide, vs, h1, t.imp fun b _ z => ⟨z.1.anti fun _ y => (own b y).elim (fun q => q) fun q => absurd q z.2, z.2⟩⟩
    · rw [if_neg hj] at e
      exact (R.sl j s e).calm Alike.refl (calm j s e) ⟨fun _ _ z => z.elim, fun _ _ z => z, fun _ _ _ z => z, fun _ _ z => z⟩ fun _ _ _ _ _ _ z => z
theorem rep_inner {P : Addr → Prop} {es us2 : List Dv.D} {v w : V} {b : Addr} {us : List V} {c : Dv.D} (r : Rep C P H (.lst es) v) (he : D.pureL es = true) (hb : H b = some (.lst us)) (rb : RepL C (fun _ => False) H us2 us) (hu : D.pureL us2 = true) (rc : Rep C (fun _ => False) H c w) (hc : c.pure = true) :
    ∃ es', Rep C P (upd H b (.lst (us ++ [w]))) (.lst es') v ∧ D.pureL es' = true ∧ (es'.length = es.length ∨ es'.length = es.length + 1) := by
  have kf : Keep (fun _ => False) H (upd H b (.lst (us ++ [w]))) := Keep.upd hb (.inl ⟨_, rfl⟩) fun z => z
  cases r with
  | lst p h hl he' =>
    rename_i a vs
    by_cases hab : a = b
    · subst hab
      rw [hb] at h
      cases h
      have t : RepL C P (upd H a (.lst (us ++ [w]))) (es ++ [c]) (us ++ [w]) := by
        refine RepL.app ⟨hl, fun i d v e1 e2 => ?_⟩ (.cons ?_ .nil)
        · have pd := pureL_get he e1
          exact (((he' i d v e1 e2).pure pd : Rep C (fun _ => False) H d v).keep kf).pure pd
        · exact (rc.keep kf).pure hc
      exact ⟨es ++ [c], .lst p upd_same t.1 t.2, by rw [pureL_app]; simp [he, hc], .inr (by simp)⟩
    · refine ⟨es, .lst p (by rw [upd_ne hab]; exact h) hl fun i d v e1 e2 => ?_, he, .inl rfl⟩
      have pd := pureL_get he e1
      exact (((he' i d v e1 e2).pure pd : Rep C (fun _ => False) H d v).keep kf).pure pd
theorem inn_step {m : Option Nat} {P : Addr → Prop} {d : Dv.D} {es us2 : List Dv.D} {v w : V} {b : Addr} {us : List V} {c : Dv.D} (hi : Inn m d es) (r : Rep C P H d v) (hb : H b = some (.lst us)) (rb : RepL C (fun _ => False) H us2 us) (hu : D.pureL us2 = true) (rc : Rep C (fun _ => False) H c w) (hc : c.pure = true) :
    ∃ d' es', Inn m d' es' ∧ Rep C P (upd H b (.lst (us ++ [w]))) d' v ∧ (es'.length = es.length ∨ es'.length = es.length + 1) := by
  have kf : Keep (fun _ => False) H (upd H b (.lst (us ++ [w]))) := Keep.upd hb (.inl ⟨_, rfl⟩) fun z => z
  cases hi with
  | each he =>
    obtain ⟨es', r', p', l'⟩ := rep_inner r he hb rb hu rc hc
    exact ⟨_, es', .each p', r', l'⟩
  | at_ ek hp he =>
    rename_i k fs
    cases r with
    | tup h hl hf =>
      rename_i a vs
      have hk : k < vs.length := by rw [← hl]; exact (List.getElem?_eq_some_iff.mp ek).1
      obtain ⟨es', r', p', l'⟩ := rep_inner (hf k _ vs[k] ek (by simp [hk])) he hb rb hu rc hc
      refine ⟨.tup (fs.set k (.lst es')), es', .at_ (by rw [List.getElem?_set_self (by omega)]) (fun j d hj e => ?_) p', .tup (kf.tup h) (by simp [hl]) (fun j d x e1 e2 => ?_), l'⟩
      · rw [List.getElem?_set_ne (Ne.symm hj)] at e
        exact hp j d hj e
      · by_cases hj : k = j
        · subst hj
          rw [List.getElem?_set_self (by omega)] at e1
          cases e1
          have : vs[k] = x := by rw [List.getElem?_eq_getElem hk] at e2; exact Option.some.inj e2
          rw [← this]
          exact r'
        · rw [List.getElem?_set_ne hj] at e1
          have pd := hp j d (Ne.symm hj) e1
          exact (((hf j d x e1 e2).pure pd : Rep C (fun _ => False) H d x).keep kf).pure pd
theorem repL_of {P : Addr → Prop} : ∀ (vs : List V), (∀ (j : Nat) v, vs[j]? = some v → ∃ d, Rep C P H d v) → ∃ ds, RepL C P H ds vs
  | [], _ => ⟨[], RepL.nil⟩
  | v :: vs, h => by
    obtain ⟨d, r⟩ := h 0 v rfl
    obtain ⟨ds, t⟩ := repL_of vs fun j u e => h (j + 1) u (by simpa using e)
    exact ⟨d :: ds, .cons r t⟩
/-- for t in x: (t or t[k]).append(c) -/
theorem ds0_weach {i t : Nat} {m : Option Nat} {tm te : TE} {wm we : WpE} (hm : ∀ D, DE (C.busy D) W tm wm) (he : ∀ D, DE (C.busy D) W te we)
    (hw : ∀ (env : En) (d : Dv.D) (es : List Dv.D), env[t]? = some (.v .fro d) → Inn m d es → wm env (fun r => r = .v .fro (.lst es)) fun _ => False) :
    DS0 C W (tFor (iSeq C.K (tVar i)) (gName t) (tDrop (tBM C.K "list" rAppend tm (tCons te tNil)))) (fun k env => eachW i t m we k env) := by
  intro env σ H k D R cm h
  have h : eachW i t m we k env := h
  unfold eachW at h
  split at h
  case h_2 => exact h.elim
  rename_i ds e
  obtain ⟨hit, htl, hlen, hin, ⟨c, hc, hce⟩, h⟩ := h
  obtain ⟨a, ev, _, vs, h1, tr⟩ := R.sl i _ e
  have ha : Own env σ a := ⟨i, _, _, e, ev⟩
  have hil : i < env.length := (List.getElem?_eq_some_iff.mp e).1
  have hB : ¬ C.B a := fun z => (R.bus a z).2.2 ha
  have h0 : C.H0 a = none := R.own a ha
  -- the state within
  let eW : En := ((wreckE env).set t .e).set i .e
  have eWl : eW.length = env.length := by simp [eW, wreck_len]
  have eWg : ∀ (j : Nat) (s : Sl), eW[j]? = some s → s = .e ∨ (j ≠ i ∧ j ≠ t ∧ env[j]? = some s ∧ s.calm = true) := by
    intro j s q
    have q : (((wreckE env).set t .e).set i .e)[j]? = some s := q
    by_cases hj : i = j
    · rw [List.getElem?_set, if_pos hj] at q
      split at q
      · exact .inl (Option.some.inj q).symm
      · cases q
    rw [List.getElem?_set_ne hj] at q
    by_cases hk : t = j
    · rw [List.getElem?_set, if_pos hk] at q
      split at q
      · exact .inl (Option.some.inj q).symm
      · cases q
    rw [List.getElem?_set_ne hk] at q
    rcases wreck_get q with q | q
    · exact .inl q
    · exact .inr ⟨fun z => hj z.symm, fun z => hk z.symm, q.1, q.2⟩
  have eWi : eW[i]? = some .e := by
    show (((wreckE env).set t .e).set i .e)[i]? = some .e
    rw [List.getElem?_set_self (by rw [List.length_set, wreck_len]; exact hil)]
  let P : Addr → Prop := fun b => Pf C (Own env σ) .fro b ∧ b ≠ a
  have refl : Keep (fun b => Own env σ b ∨ C.B b ∨ ∃ o, C.H0 b = some o) H H := Keep.same (Same.refl H)
  have own : ∀ {σ2 : L2.St}, (∀ j, j ≠ t → σ2[j]? = σ[j]?) → ∀ b, Own eW σ2 b → Own env σ b ∧ b ≠ a := by
    rintro σ2 hs b ⟨j, f, d, e1, e2⟩
    rcases eWg j _ e1 with z | ⟨z1, z2, z3, _⟩
    · cases z
    · rw [hs j z2] at e2
      refine ⟨⟨j, f, d, z3, e2⟩, fun q => z1 (R.inj j i _ _ _ _ a z3 e (by rw [e2, q]) ev)⟩
  have al : Alike C (C.busy a) := ⟨rfl, rfl, rfl, rfl⟩
  have RW : RelO (C.busy a) C.H0 eW σ H := R.wreck al (by rw [eWl, R.len]) (fun j s q => (eWg j s q).imp_right fun z => ⟨z.2.2.1, rfl, z.2.2.2⟩) refl fun b z => z.imp_right fun q => by
    subst q
    exact ⟨⟨_, h1⟩, h0, fun y => (own (fun _ _ => rfl) _ y).2 rfl⟩
  refine ⟨_, ev, .inl ⟨a, rfl, ⟨vs, .inl (.inl h1)⟩, ?_⟩⟩
  refine ⟨fun n m' σ2 H2 => m' = vs.length - n ∧ n ≤ vs.length ∧ (∀ j, j ≠ t → σ2[j]? = σ[j]?) ∧ RelO (C.busy a) C.H0 eW σ2 H2 ∧ H2 a = some (.lst vs) ∧ ∀ (j : Nat) v, vs[j]? = some v → ∃ d es, Inn m d es ∧ es.length ≤ 100000 + n ∧ Rep C P H2 d v,
    ⟨vs.length, rfl, Nat.zero_le _, fun _ _ => rfl, RW, h1, fun j v ej => ?_⟩, ?_⟩
  · obtain ⟨d, ed, rd⟩ := tr.getV ej
    obtain ⟨es, q1, q2⟩ := hin d (List.mem_of_getElem? ed)
    exact ⟨d, es, q1, by omega, rd⟩
  rintro n m' σ2 H2 ⟨rfl, hn, hs, R2, h2, hd⟩
  have sq : SqL C.K H2 a vs := .inl (.inl h2)
  by_cases hlt : n < vs.length
  · refine .inr ⟨⟨vs, vs[n], sq, by simp [hlt]⟩, fun σ' H' => n + 1 ≤ vs.length ∧ (∀ j, j ≠ t → σ'[j]? = σ[j]?) ∧ RelO (C.busy a) C.H0 eW σ' H' ∧ H' a = some (.lst vs) ∧ ∀ (j : Nat) v, vs[j]? = some v → ∃ d es, Inn m d es ∧ es.length ≤ 100000 + (n + 1) ∧ Rep C P H' d v,
      fun σ' H' z => ⟨vs.length - (n + 1), by omega, rfl, z⟩, fun x H3 y => ?_⟩
    obtain ⟨rfl, y2⟩ := y
    have ex := y2 vs sq
    obtain ⟨d, es, hI, hel, rd⟩ := hd n x ex
    have hs3 : ∀ j, j ≠ t → (σ2.set t (some x))[j]? = σ[j]? := fun j hj => by rw [List.getElem?_set_ne (Ne.symm hj)]; exact hs j hj
    have rd3 : Rep (C.busy a) (Pf (C.busy a) (Own eW σ2) .fro) H3 d x := (rd.imp fun b _ z => (z.1.anti fun _ q => (own hs b q).1).busy z.2).busy
    have R3 := R2.setV (i := t) (f := .fro) (by decide) rd3
    have et : (eW.set t (.v .fro d))[t]? = some (.v .fro d) := by rw [List.getElem?_set_self (by rw [eWl]; exact htl)]
    show tm _ _ _
    refine hm a C.H0 _ _ H3 _ (fun _ => False) _ R3 (fun _ _ _ _ _ _ z => z.elim) ?_ (hw _ d es et hI)
    rintro u H4 r s34 pr rfl
    have pr : Rep (C.busy a) (Pf (C.busy a) (Own (eW.set t (.v .fro d)) (σ2.set t (some x))) .fro) H4 (.lst es) u := pr
    have hpe : Dv.D.pureL es = true := by cases hI <;> assumption
    cases pr with
    | lst p hb hl hel2 =>
      rename_i b us
      refine ⟨.inl ⟨rfl, us, .inl (.inl hb)⟩, ?_⟩
      refine he a C.H0 _ _ H4 _ (fun _ => False) _ (R3.same s34) (fun _ _ _ _ _ _ z => z.elim) ?_ (hce _)
      rintro w H5 r s45 pw rfl
      have pw : Rep C _ H5 c w := Rep.unbusy pw
      have hb5 := s45 _ _ hb
      have s35 := s34.trans s45
      have hba : b ≠ a := p.unbusy.2
      have R5 := R3.same s35
      have kk : Keep (fun z => Own (eW.set t (.v .fro d)) (σ2.set t (some x)) z ∨ (C.busy a).B z ∨ ∃ o, (C.busy a).H0 z = some o) H5 (upd H5 b (.lst (us ++ [w]))) := fresh_keep hb5 p
      refine ⟨b, us, w, rfl, rfl, hb5, ?_, ?_⟩
      · rw [← hl, ← line_eq]
        have : (100000 : Nat) + 100000 < line := by decide
        have hvl := tr.1
        omega
      · refine ⟨by omega, hs3, ?_, by rw [upd_ne hba.symm]; exact s35 _ _ h2, fun j v ej => ?_⟩
        · refine R5.wreck (C2 := C.busy a) Alike.refl (R2.len.trans (List.length_set ..).symm) (fun j s q => ?_) kk fun _ z => .inl z
          rcases eWg j s q with z | z
          · exact .inl z
          · refine .inr ⟨?_, rfl, z.2.2.2⟩
            rw [List.getElem?_set_ne (Ne.symm z.2.1)]
            exact q
        · obtain ⟨d', es', hI', hl', rd'⟩ := hd j v ej
          have ru : RepL C (fun _ => False) H5 es us := ⟨hl, fun i d v e1 e2 => ((Rep.unbusy ((hel2 i d v e1 e2).pure (pureL_get hpe e1)) : Rep C (fun _ => False) H4 d v).same s45)⟩
          obtain ⟨d2, es2, q1, q2, q3⟩ := inn_step hI' (rd'.same s35) hb5 ru hpe (pw.pure hc) hc
          exact ⟨d2, es2, q1, by omega, q2⟩
  · have en : n = vs.length := by omega
    subst en
    refine .inl ⟨⟨vs, sq, Nat.le_refl _⟩, ?_⟩
    obtain ⟨ds', t'⟩ := repL_of vs fun j v ej => (let ⟨d, es, _, _, r⟩ := hd j v ej; ⟨d, r⟩)
    have R7 : RelO C C.H0 eW σ2 H2 := RelO.wreck (C := C.busy a) (C2 := C) ⟨rfl, rfl, rfl, rfl⟩ R2 R2.len (fun j s q => (eWg j s q).imp_right fun z => ⟨q, rfl, z.2.2.2⟩) (Keep.same (Same.refl _)) fun b z => Or.inl (show (C.busy a).B b from Or.inl z)
    have R6 := R7.reown (i := i) (fun j s q => (eWg j s q).elim (fun z => by rw [z]; rfl) fun z => z.2.2.2) (by rw [eWl]; exact hil) (by rw [hs i hit]; exact ev) eWi hB h0 (fun z => (own hs a z).2 rfl) h2 (t'.imp fun b _ z => ⟨z.1.anti fun _ q => (own hs b q).1, z.2⟩)
    have e2 : eW.set i (.o .fro (.lst ds')) = ((wreckE env).set t .e).set i (.o .fro (.lst ds')) := by
      show ((((wreckE env).set t .e).set i .e).set i _) = _
      rw [List.set_set]
    rw [e2] at R6
    exact cm.nx _ _ _ R6 (h ds' (by rw [t'.1, ← tr.1]))
end
/-! ### x[a][b] += e -/
def rGetL (K : PySem.W.Frag) : V → V → Hp → VK → Prop := fun o i H Q => ∃ a vs k v, o = .ref a ∧ i = .int k ∧ SqL K H a vs ∧ 0 ≤ k ∧ vs[k.toNat]? = some v ∧ Q v H
theorem get_listG {X : Cx} : PGet X (rGetL X.K) := by
  intro pins s σ H o i ov iv Q I ro ri h
  obtain ⟨a, vs, k, v, rfl, rfl, hq, hk, hv, q⟩ := h
  cases ro
  obtain ⟨t, rfl⟩ := ri
  obtain ⟨its, r, pl, hz⟩ := I.list hq
  obtain ⟨w, ew, rw'⟩ := r.get hv
  have hlt := (List.getElem?_eq_some_iff.mp ew).1
  rw [sizeLine_eq] at hz
  have hz2 : its.length ≤ 16777216 := by have := r.length; omega
  exact PyProof.Rows.getItem_listL pl.isList hk (by omega) ew ⟨v, H, I, rw', q⟩
theorem ints_back {C : Cc} {P : Addr → Prop} {H : Hp} : ∀ ns : List Int, RepL C P H (ns.map D.int) (ns.map V.int)
  | [] => .nil
  | n :: r => .cons (.int n) (ints_back r)
theorem likeI.nil : likeI [] [] := ⟨rfl, fun j ns h => by simp at h⟩
theorem likeI.cons {ns ns' : List Int} {ds ds' : List Dv.D} (hl : ns'.length = ns.length) (h : likeI ds ds') : likeI (.lst (ns.map .int) :: ds) (.lst (ns'.map .int) :: ds') := by
  refine ⟨by simp [h.1], fun j ms e => ?_⟩
  cases j with
  | zero =>
    simp only [List.getElem?_cons_zero, Option.some.injEq, D.lst.injEq] at e
    have e2 := congrArg List.length e
    simp at e2
    exact ⟨ns', by omega, rfl⟩
  | succ j => exact h.2 j ms (by simpa using e)
theorem rows_step {C : Cc} {P : Addr → Prop} {H : Hp} {b : Addr} {m : Nat} {us : List V} {z : Int} (hb : H b = some (.lst us)) : ∀ {ds : List Dv.D} {vs : List V}, RepL C P H ds vs → (∀ d ∈ ds, ∃ ns : List Int, d = .lst (ns.map .int)) →
    ∃ ds', RepL C P (upd H b (.lst (us.set m (.int z)))) ds' vs ∧ likeI ds ds'
  | [], [], _, _ => ⟨[], .nil, .nil⟩
  | [], _ :: _, t, _ => by have := t.1; simp at this
  | _ :: _, [], t, _ => by have := t.1; simp at this
  | d :: ds, v :: vs, t, h => by
    obtain ⟨ds', t', l'⟩ := rows_step (m := m) (z := z) hb t.tail fun d hd => h d (List.mem_cons_of_mem _ hd)
    obtain ⟨ns, rfl⟩ := h d List.mem_cons_self
    have r := t.head
    cases r with
    | lst p h1 hl he =>
      rename_i a ws
      have ew : ws = ns.map V.int := ints_vs ⟨hl, he⟩ (intsOf_ints ns)
      subst ew
      by_cases hab : a = b
      · subst hab
        rw [hb] at h1
        cases h1
        have e : (ns.map V.int).set m (.int z) = (ns.set m z).map V.int := by rw [List.map_set]
        have T := ints_back (C := C) (P := P) (H := upd H a (.lst ((ns.map V.int).set m (.int z)))) (ns.set m z)
        exact ⟨.lst ((ns.set m z).map .int) :: ds', .cons (.lst p (by rw [upd_same, e]) T.1 T.2) t', likeI.cons (by simp) l'⟩
      · have T := ints_back (C := C) (P := P) (H := upd H b (.lst (us.set m (.int z)))) ns
        exact ⟨.lst (ns.map .int) :: ds', .cons (.lst p (by rw [upd_ne hab]; exact h1) T.1 T.2) t', likeI.cons rfl l'⟩
section
variable {C : Cc} {W : WX} {H : Hp}
theorem ds0_augAt {i : Nat} {ta tb te : TE} {wa wb we : WpE} (ha : DE C W ta wa) (hb : DE C W tb wb) (he : DE C W te we) :
    DS0 C W (tAugS (tOp (rIxD C.K) (tVar i) ta) tb te (rGetL C.K) (ipI fun i j => i + j) rSetA) (fun k env => augAtW i wa wb we k env) := by
  intro env σ H k D R c h
  have h : augAtW i wa wb we k env := h
  unfold augAtW at h
  split at h
  case h_2 => exact h.elim
  rename_i ds e
  obtain ⟨hrow, h⟩ := h
  obtain ⟨a, ev, _, vs, h1, tr⟩ := R.sl i _ e
  have hA : Own env σ a := ⟨i, _, _, e, ev⟩
  have hil : i < env.length := (List.getElem?_eq_some_iff.mp e).1
  have hB : ¬ C.B a := fun z => (R.bus a z).2.2 hA
  have h0 : C.H0 a = none := R.own a hA
  refine ⟨_, ev, ?_⟩
  refine ha C.H0 env σ H _ (fun _ => False) _ R (fun _ _ _ _ _ _ z => z.elim) ?_ h
  intro va H1 ra s1 pa q
  split at q
  case h_2 => exact q.elim
  rename_i p ep
  split at q
  case h_2 => exact q.elim
  rename_i es em
  have tr1 := tr.same s1
  obtain ⟨v, e4, rv⟩ := atI_rep tr1 em
  refine .inl (.inl (.inl ⟨a, vs, p, v, rfl, pa.int ep, .inl (.inl (s1 _ _ h1)), e4, ?_⟩))
  have R1 := R.same s1
  refine hb C.H0 env σ H1 _ (fun _ => False) _ R1 (fun _ _ _ _ _ _ z => z.elim) ?_ q
  intro vb H2 rb s2 pb q2
  split at q2
  case h_2 => exact q2.elim
  rename_i x ex
  obtain ⟨⟨x0, x1⟩, q3⟩ := q2
  have R2 := R1.same s2
  obtain ⟨j, _, ej⟩ := atI_list em
  obtain ⟨ns, ens⟩ := hrow _ (List.mem_of_getElem? ej)
  cases ens
  cases rv with
  | lst pp hb1 hl1 he1 =>
    rename_i b us
    have eu : us = ns.map V.int := ints_vs ⟨hl1, he1⟩ (intsOf_ints ns)
    subst eu
    rw [List.length_map] at x1
    have hx : x.toNat < ns.length := by omega
    have hb2 := s2 _ _ hb1
    refine ⟨b, _, x, .int ns[x.toNat], rfl, pb.int ex, .inl (.inl hb2), x0, by rw [List.getElem?_map, List.getElem?_eq_getElem hx]; rfl, ?_⟩
    refine he C.H0 env σ H2 _ (fun _ => False) _ R2 (fun _ _ _ _ _ _ z => z.elim) ?_ q3
    intro w H3 rw_ s3 pw q4
    split at q4
    case h_2 => exact q4.elim
    rename_i y ey
    refine ⟨_, y, rfl, pw.int ey, ?_⟩
    have hb3 := s3 _ _ hb2
    have R3 := R2.same s3
    have hba : b ≠ a := pp.2
    refine .inl ⟨b, _, x, x.toNat, rfl, pb.int ex, hb3, ?_, ?_⟩
    · rw [List.length_map]
      unfold L2.ixN
      rw [if_pos x0, if_pos (by omega)]
    have tr3 := (tr1.same s2).same s3
    obtain ⟨ds', t', lk⟩ := rows_step (m := x.toNat) (z := ns[x.toNat] + y) hb3 tr3 hrow
    let eW : En := (wreckE env).set i .e
    have eWl : eW.length = env.length := by simp [eW, wreck_len]
    have eWg : ∀ (j : Nat) (s : Sl), eW[j]? = some s → s = .e ∨ (j ≠ i ∧ env[j]? = some s ∧ s.calm = true) := by
      intro j s q
      have q : ((wreckE env).set i .e)[j]? = some s := q
      by_cases hj : i = j
      · rw [List.getElem?_set, if_pos hj] at q
        split at q
        · exact .inl (Option.some.inj q).symm
        · cases q
      rw [List.getElem?_set_ne hj] at q
      rcases wreck_get q with q | q
      · exact .inl q
      · exact .inr ⟨fun z => hj z.symm, q.1, q.2⟩
    have eWi : eW[i]? = some .e := by
      show ((wreckE env).set i .e)[i]? = some .e
      rw [List.getElem?_set_self (by rw [wreck_len]; exact hil)]
    have own : ∀ b, Own eW σ b → Own env σ b ∧ b ≠ a := by
      rintro b ⟨j, f, d, e1, e2⟩
      rcases eWg j _ e1 with z | ⟨z1, z3, _⟩
      · cases z
      · refine ⟨⟨j, f, d, z3, e2⟩, fun q => z1 (R.inj j i _ _ _ _ a z3 e (by rw [e2, q]) ev)⟩
    have RW := R3.wreck (C2 := C) (env' := eW) (σ' := σ) Alike.refl (by rw [eWl, R.len]) (fun j s q => (eWg j s q).imp_right fun z => ⟨z.2.1, rfl, z.2.2⟩) (fresh_keep (o := .lst ((ns.map V.int).set x.toNat (.int (ns[x.toNat] + y)))) hb3 pp.1) fun b z => .inl z
    have R6 := RW.reown (i := i) (fun j s q => (eWg j s q).elim (fun z => by rw [z]; rfl) fun z => z.2.2) (by rw [eWl]; exact hil) ev eWi hB h0 (fun z => (own a z).2 rfl) (by rw [upd_ne hba.symm]; exact s3 _ _ (s2 _ _ (s1 _ _ h1))) (t'.imp fun b _ z => ⟨z.1.anti fun _ q => (own b q).1, z.2⟩)
    have e2 : eW.set i (.o .fro (.lst ds')) = (wreckE env).set i (.o .fro (.lst ds')) := by
      show (((wreckE env).set i .e).set i _) = _
      rw [List.set_set]
    rw [e2] at R6
    exact c.nx _ _ _ R6 (q4 ds' lk)
end
section
variable (K : PySem.W.Frag) (ca : CaL)
def rdW (zx : ZX) (W : WX) (w : Wr) (i : Nat) (e : E) : TS := match w with
  | .clear => tDrop (tBM0 K "list" rClear (tVar i))
  | .app => tDrop (tBM K "list" rAppend (tVar i) (tCons (rdE K ca zx W e) tNil))
  | .each t => tFor (iSeq K (tVar i)) (gName t) (tDrop (tBM K "list" rAppend (tVar t) (tCons (rdE K ca zx W e) tNil)))
  | .at_ t k => tFor (iSeq K (tVar i)) (gName t) (tDrop (tBM K "list" rAppend (rdE K ca zx W (.idx (.var t) (.int (k : Int)))) (tCons (rdE K ca zx W e) tNil)))
def rdSs0 (zx : ZX) (W : WX) : Ss → TS
  | .nil => tNext
  | .cons s ss => (match s with
    | .frz _ => rdSs0 zx W ss
    | .wreck w i e => tSeq (rdW K ca zx W w i e) (rdSs0 zx W ss)
    | .augAt i a b e => tSeq (tAugS (tOp (rIxD K) (tVar i) (rdE K ca zx W a)) (rdE K ca zx W b) (rdE K ca zx W e) (rGetL K) (ipI fun i j => i + j) rSetA) (rdSs0 zx W ss)
    | _ => tSeq (rdS K ca zx W s) (rdSs0 zx W ss))
end
def chkW (N : Nm) (sc : Scope) (w : Wr) (i : Nat) (e : E) (s : Stmt) : Bool := match w, s with
  | .clear, s => chkS N sc (.clear i) s
  | .app, s => chkS N sc (.app i e) s
  | .each t, .For tg it [.Expr (.Call (.Attribute (.Name y py) at_ ap) [v] [] cp) q] [] _ => (!N.hot && (tgB true sc N (.nm t) tg && noSet it)) && (chkIt N sc (.seq (.var i)) tg it && chkS N sc (.app t e) (.Expr (.Call (.Attribute (.Name y py) at_ ap) [v] [] cp) q))
  | .at_ t k, .For tg it [.Expr (.Call (.Attribute (.Subscript a b pb) at_ ap) [v] [] cp) _] [] _ => (!N.hot && (tgB true sc N (.nm t) tg && noSet it)) && (chkIt N sc (.seq (.var i)) tg it && ((decide (at_ = ("append" : Str)) && bmB ap cp) && (chkE N sc (.idx (.var t) (.int (k : Int))) (.Subscript a b pb) && chkE N sc e v)))
  | _, _ => false
def chkAt (N : Nm) (sc : Scope) (i : Nat) (a b e : E) : Stmt → Bool
  | .AugAssign (.Subscript (.Subscript (.Name x _) ka _) kb _) .Add v _ => ((nmB N i x && visB sc x) && (noSl ka && noSl kb)) && (chkE N sc a ka && (chkE N sc b kb && chkE N sc e v))
  | _ => false
def chkSs0 (N : Nm) (sc : Scope) : Ss → List Stmt → Bool
  | .nil, [] => true
  | .cons s ss, xs => (match s with
    | .frz _ => chkSs0 N sc ss xs
    | .wreck w i e => (match xs with
      | [] => false
      | x :: xs => chkW N sc w i e x && chkSs0 N sc ss xs)
    | .augAt i a b e => (match xs with
      | [] => false
      | x :: xs => chkAt N sc i a b e x && chkSs0 N sc ss xs)
    | _ => (match xs with
      | [] => false
      | x :: xs => chkS N sc s x && chkSs0 N sc ss xs))
  | _, _ => false
section
variable {X : Cx} {sc : Scope} {N : Nm} {L : Nat} {W : WX} {K : PySem.W.Frag} {ca : CaL} {zx : ZX}
theorem app_inv {i : Nat} {m : E} {s : Stmt} (h : chkS N sc (.app i m) s = true) : ∃ x p1 at_ ap v cp q, s = .Expr (.Call (.Attribute (.Name x p1) at_ ap) [v] [] cp) q ∧ chkE N sc m v = true := by
  unfold chkS at h
  split at h <;> first | (cases h; done) | skip
  all_goals simp only [reduceCtorEq, S.app.injEq] at *
  rename_i e0
  obtain ⟨e1, e2⟩ := e0
  subst e1 e2
  rw [Bool.and_eq_true] at h
  exact ⟨_, _, _, _, _, _, _, rfl, h.2⟩
theorem sndW (w : Wr) (i : Nat) (e : E) {s : Stmt} (c : CtxS X sc N ca zx L W) (hK : X.K = K) (h : chkW N sc w i e s = true) (ok : OkE (kns X ca L) e) :
    PS X s (rdW K ca zx W w i e) ∧ ∀ C : Cc, C.K = K → C.ca = ca → (∀ a d c, C.Z a d c → zx a d c) → DS0 C W (rdW K ca zx W w i e) (wpS (.wreck w i e)) := by
  cases w with
  | clear =>
    have h : chkS N sc (.clear i) s = true := h
    refine ⟨(s_clear (K := K) (ca := ca) (zx := zx) (W := W) c.toCtx hK h).1, fun C z1 z2 z3 => ?_⟩
    subst z1
    exact ds0_wclear
  | app =>
    have h : chkS N sc (.app i e) s = true := h
    obtain ⟨_, _, _, _, v, _, _, _, hv⟩ := app_inv h
    have A := sndE e c.toCtx hK hv ok
    refine ⟨(s_app (K := K) (ca := ca) (zx := zx) (W := W) c.toCtx hK h ok).1, fun C z1 z2 z3 => ?_⟩
    have A2 := A.2 C z1 z2 z3
    subst z1
    exact ds0_wapp A2
  | each t =>
    unfold chkW at h
    split at h <;> first | (cases h; done) | skip
    all_goals simp only [reduceCtorEq, Wr.each.injEq] at *
    subst ‹t = _›
    rename_i tg it y py at_ ap v cp q p
    rw [Bool.and_eq_true, Bool.and_eq_true, Bool.and_eq_true, Bool.and_eq_true, Bool.not_eq_true'] at h
    obtain ⟨⟨hh, h1, h2⟩, h3, h4⟩ := h
    obtain ⟨_, _, _, _, v', _, _, q1, hv⟩ := app_inv h4
    cases q1
    have A := sndE e c.toCtx hK hv ok
    have I := sndIt (.seq (.var i)) c.toCtx hK h3 trivial
    have B := s_app (K := K) (ca := ca) (zx := zx) (W := W) c.toCtx hK h4 ok
    refine ⟨ps_for c.po (c.calm hh) I.1 (pg_of c.toCtx (.inl (c.calm hh)) (fun _ => c.fn) hK h1) (pss_one B.1) (noFold h2 _), fun C z1 z2 z3 => ?_⟩
    subst z1
    exact ds0_weach (fun D => de_var) (fun D => A.2 (C.busy D) rfl z2 z3) fun env d es h1 h2 => by
      cases h2
      show varW env t _
      unfold varW
      rw [h1]
  | at_ t k =>
    unfold chkW at h
    split at h <;> first | (cases h; done) | skip
    all_goals simp only [reduceCtorEq, Wr.at_.injEq] at *
    obtain ⟨e1, e2⟩ := ‹t = _ ∧ k = _›
    subst e1 e2
    rw [Bool.and_eq_true, Bool.and_eq_true, Bool.and_eq_true, Bool.and_eq_true, Bool.and_eq_true (b := _ && _), Bool.and_eq_true (b := bmB _ _), Bool.and_eq_true (b := chkE _ _ _ _), decide_eq_true_eq, Bool.not_eq_true'] at h
    obtain ⟨⟨hh, h1, h2⟩, h3, ⟨rfl, h4⟩, h5, h6⟩ := h
    have A := sndE e c.toCtx hK h6 ok
    have M := sndE (.idx (.var t) (.int (k : Int))) c.toCtx hK h5 ⟨trivial, trivial⟩
    have I := sndIt (.seq (.var i)) c.toCtx hK h3 trivial
    refine ⟨?_, fun C z1 z2 z3 => ?_⟩
    · have B := fun q => ps_expr (pos := q) (pe_bm PySem.F.plainAttrs_list PySem.F.slot_list_append PySem.F.type_list_append mt_append M.1 (pa_cons A.1 pa_nil (star1 h6)) rfl (few1 h6) h4 (star1 h6) rfl) (swap_none rfl)
      subst hK
      exact ps_for c.po (c.calm hh) I.1 (pg_of c.toCtx (.inl (c.calm hh)) (fun _ => c.fn) rfl h1) (pss_one (B _)) (noFold h2 _)
    · subst z1
      exact ds0_weach (fun D => M.2 (C.busy D) rfl z2 z3) (fun D => A.2 (C.busy D) rfl z2 z3) fun env d es h1 h2 => by
        cases h2 with
        | at_ hk _ _ =>
          rw [wpE_idx, wpE_var]
          unfold varW
          rw [h1]
          dsimp only
          rw [wpE_int]
          unfold idxW
          dsimp only [R_d_v]
          have hkl := (List.getElem?_eq_some_iff.mp hk).1
          have e3 : ∀ fs : List D, k < fs.length → Dv.atI fs (k : Int) = fs[k]? := fun fs hl => by
            unfold Dv.atI Dv.ixN
            rw [if_pos (by omega), if_pos (by omega)]
            simp
          rw [e3 _ hkl, hk]
          dsimp only
          simp
          exact ite_self _
theorem sndAt (i : Nat) (a b e : E) {s : Stmt} (c : CtxS X sc N ca zx L W) (hK : X.K = K) (h : chkAt N sc i a b e s = true) (ok : OkS (kns X ca L) (.augAt i a b e)) :
    PS X s (tAugS (tOp (rIxD K) (tVar i) (rdE K ca zx W a)) (rdE K ca zx W b) (rdE K ca zx W e) (rGetL K) (ipI fun i j => i + j) rSetA) ∧ ∀ C : Cc, C.K = K → C.ca = ca → (∀ a d c, C.Z a d c → zx a d c) →
      DS0 C W (tAugS (tOp (rIxD K) (tVar i) (rdE K ca zx W a)) (rdE K ca zx W b) (rdE K ca zx W e) (rGetL K) (ipI fun i j => i + j) rSetA) (wpS (.augAt i a b e)) := by
  unfold chkAt at h
  split at h
  case h_2 => cases h
  rw [Bool.and_eq_true, Bool.and_eq_true (b := noSl _ && noSl _), Bool.and_eq_true (a := noSl _), Bool.and_eq_true (a := chkE N sc a _), Bool.and_eq_true (a := chkE N sc b _)] at h
  obtain ⟨⟨h1, h2, h3⟩, h4, h5, h6⟩ := h
  have A := sndE a c.toCtx hK h4 ok.1
  have B := sndE b c.toCtx hK h5 ok.2.1
  have E := sndE e c.toCtx hK h6 ok.2.2
  refine ⟨?_, fun C z1 z2 z3 => ?_⟩
  · have P := A.1
    have P2 := B.1
    have P3 := E.1
    subst hK
    exact ps_augS (pe_ix (ix_D (show _ < _ by have := c.toCtx.un; omega)) (ctx_var c.toCtx h1) P (plainIx h2)) P2 get_listG P3 ip_add (set_any (show _ < _ by have := c.toCtx.un; omega)) (aug_sub h3)
  · have A2 := A.2 C z1 z2 z3
    have B2 := B.2 C z1 z2 z3
    have E2 := E.2 C z1 z2 z3
    subst z1
    exact ds0_augAt A2 B2 E2
theorem sndSs0 : ∀ (ms : Ss) {ss : List Stmt}, CtxS X sc N ca zx L W → X.K = K → chkSs0 N sc ms ss = true → OkSs (kns X ca L) ms → PSs X ss (rdSs0 K ca zx W ms) ∧ ∀ C : Cc, C.K = K → C.ca = ca → (∀ a d c, C.Z a d c → zx a d c) → DS0 C W (rdSs0 K ca zx W ms) (wpSs ms)
  | .nil, ss, c, hK, h, ok => by
    cases ss with
    | nil => exact ⟨pss_nil, fun C _ _ _ => ds0_of ds_nil⟩
    | cons _ _ => simp [chkSs0] at h
  | .cons m ms, ss, c, hK, h, ok => by
    by_cases hf : ∃ i, m = .frz i
    · obtain ⟨i, rfl⟩ := hf
      have h' : chkSs0 N sc ms ss = true := by simpa only [chkSs0] using h
      have B := sndSs0 ms c hK h' ok.2
      exact ⟨B.1, fun C z1 z2 z3 => ds0_frz (B.2 C z1 z2 z3)⟩
    by_cases hw : ∃ w i e, m = .wreck w i e
    · obtain ⟨w, i, e, rfl⟩ := hw
      cases ss with
      | nil => simp [chkSs0] at h
      | cons s ss =>
        have h' : chkW N sc w i e s = true ∧ chkSs0 N sc ms ss = true := by simpa only [chkSs0, Bool.and_eq_true] using h
        have A := sndW w i e c hK h'.1 ok.1
        have B := sndSs0 ms c hK h'.2 ok.2
        have e0 : rdSs0 K ca zx W (.cons (.wreck w i e) ms) = tSeq (rdW K ca zx W w i e) (rdSs0 K ca zx W ms) := rfl
        rw [e0]
        exact ⟨pss_cons A.1 B.1, fun C z1 z2 z3 => (ds0_cons (A.2 C z1 z2 z3) (B.2 C z1 z2 z3) : DS0 C W (tSeq (rdW K ca zx W w i e) (rdSs0 K ca zx W ms)) (fun k env => wpS (.wreck w i e) { k with nx := wpSs ms k } env))⟩
    by_cases hz : ∃ i a b e, m = .augAt i a b e
    · obtain ⟨i, a, b, e, rfl⟩ := hz
      cases ss with
      | nil => simp [chkSs0] at h
      | cons s ss =>
        have h' : chkAt N sc i a b e s = true ∧ chkSs0 N sc ms ss = true := by simpa only [chkSs0, Bool.and_eq_true] using h
        have A := sndAt i a b e c hK h'.1 ok.1
        have B := sndSs0 ms c hK h'.2 ok.2
        have e0 : rdSs0 K ca zx W (.cons (.augAt i a b e) ms) = tSeq (tAugS (tOp (rIxD K) (tVar i) (rdE K ca zx W a)) (rdE K ca zx W b) (rdE K ca zx W e) (rGetL K) (ipI fun i j => i + j) rSetA) (rdSs0 K ca zx W ms) := rfl
        rw [e0]
        exact ⟨pss_cons A.1 B.1, fun C z1 z2 z3 => (ds0_cons (A.2 C z1 z2 z3) (B.2 C z1 z2 z3) : DS0 C W (tSeq _ (rdSs0 K ca zx W ms)) (fun k env => wpS (.augAt i a b e) { k with nx := wpSs ms k } env))⟩
    · cases ss with
      | nil => cases m <;> first | (simp [chkSs0] at h; done) | exact absurd ⟨_, rfl⟩ hf | exact absurd ⟨_, _, _, rfl⟩ hw | exact absurd ⟨_, _, _, _, rfl⟩ hz
      | cons s ss =>
        have h' : chkS N sc m s = true ∧ chkSs0 N sc ms ss = true := by
          cases m <;> first | (simpa only [chkSs0, Bool.and_eq_true] using h) | exact absurd ⟨_, rfl⟩ hf | exact absurd ⟨_, _, _, rfl⟩ hw | exact absurd ⟨_, _, _, _, rfl⟩ hz
        have A := sndS m c hK h'.1 ok.1
        have B := sndSs0 ms c hK h'.2 ok.2
        have e : rdSs0 K ca zx W (.cons m ms) = tSeq (rdS K ca zx W m) (rdSs0 K ca zx W ms) := by
          cases m <;> first | rfl | exact absurd ⟨_, rfl⟩ hf | exact absurd ⟨_, _, _, rfl⟩ hw | exact absurd ⟨_, _, _, _, rfl⟩ hz
        rw [e]
        exact ⟨pss_cons A.1 B.1, fun C z1 z2 z3 => (ds0_cons (ds0_of (A.2 C z1 z2 z3)) (B.2 C z1 z2 z3) : DS0 C W (tSeq (rdS K ca zx W m) (rdSs0 K ca zx W ms)) (fun k env => wpS m { k with nx := wpSs ms k } env))⟩
end
end Dv

namespace Dv
open PySem PySem.Spec PyProof.Rows L2
/-! ### a def by its mini body -/
section
variable {P : Program} {w : World} {K : PySem.W.Frag} {mg : Str → Option Value} {base : Heap} {ca : CaL}
/-- the facts of the top, without a body -/
def knsT (P : Program) (w : World) (K : PySem.W.Frag) (mg : Str → Option Value) (base : Heap) (ca : CaL) (L : Nat) : Kns where
  fn := fun x n sp => ∃ f fd ps, ps.length = n ∧ mg x = some (.ref f) ∧ PySem.W.keepIn K (.ref f) = true ∧ Binds K fd ps [] ∧ FnOk P w K mg base (L2.CX P w) L f fd ps (spOf K ca n sp)
  gl := fun x d => ∃ u, mg x = some u ∧ RelV (gV K x d) u ∧ (∀ C : Cc, C.K = K → ∀ O Hb H f, RepR C O Hb H (.v f d) (gV K x d))
  fr := fun x => mg x = none
  ex := fun c => Both (∃ (B newId initId : String) (bm : List Value), ExcBaseFacts B newId initId bm ∧ PySem.W.excIn K (ca c) bm newId = true ∧ mg c = some (.ref (ca c)) ∧ PySem.W.keepIn K (.ref (ca c)) = true ∧ (∀ (M : Model) (h : Heap), K.In h → PySem.W.Looks M h (isSubtype (.ref (ca c)) (.type "BaseException")) true ∧ PySem.W.Looks M h (typeOf (.ref (ca c))) (.type "type"))) (c ∈ ca.l)
  exf := fun c f => Both (ExI P w K mg base ca c f) (c ∈ ca.l) ∧ 2 ≤ L
  er := ErrK K ca mg
  ec := fun c => c ∈ ca.l ∨ (c = "ValueError" ∧ mg "ValueError" = none ∧ ¬ c ∈ ca.l)
theorem start_rel {S : Addr → List Int → Prop} {A : Addr → Prop} {H : Hp} {ds : List D} {vs : List V} {N : List Str} {n : Nat} (hS : ∀ a ns, S a ns → SqL K H a (ns.map V.int)) (r : RepL (calleeC K ca S A H) A H ds vs) (hn : n = N.length) (hp : vs.length ≤ N.length) :
    RelO (calleeC K ca S A H) H (ds.map argSl ++ List.replicate (n - ds.length) .e) (L2.start N vs) H := by
  have no : ∀ (i : Nat) f d, (ds.map argSl ++ List.replicate (n - ds.length) Sl.e)[i]? ≠ some (.o f d) := by
    intro i f d e
    by_cases hi : i < ds.length
    · rw [List.getElem?_append_left (by simpa using hi), List.getElem?_map] at e
      cases q : ds[i]? with
      | none => rw [q] at e; cases e
      | some z =>
        rw [q] at e
        simp only [Option.map_some, Option.some.injEq] at e
        unfold argSl at e
        split at e <;> cases e
    · rw [List.getElem?_append_right (by simpa using hi), List.getElem?_replicate] at e
      split at e <;> cases e
  have nO : ∀ a, ¬ Own (ds.map argSl ++ List.replicate (n - ds.length) .e) (L2.start N vs) a := fun a ⟨i, f, d, e, _⟩ => no i f d e
  refine ⟨?_, Same.refl H, Same.refl H, hS, fun a h => (nO a h).elim, fun a h => h.elim, fun i j f d g e a h => (no i f d h).elim, fun i s e => ?_⟩
  · unfold L2.start
    simp only [List.length_append, List.length_map, List.length_replicate]
    rw [r.1, hn]
  · by_cases hi : i < ds.length
    · rw [List.getElem?_append_left (by simpa using hi), List.getElem?_map] at e
      cases q : ds[i]? with
      | none => rw [q] at e; cases e
      | some z =>
        rw [q] at e
        simp only [Option.map_some, Option.some.injEq] at e
        obtain ⟨v, e2, rv⟩ := r.get q
        have es : (L2.start N vs)[i]? = some (some v) := by
          unfold L2.start
          rw [List.getElem?_append_left (by simpa [← r.1] using hi), List.getElem?_map, e2]
          rfl
        unfold argSl at e
        split at e
        · rename_i p
          subst e
          exact ⟨v, es, by decide, rv.pure p⟩
        · subst e
          exact ⟨v, es, by decide, rv.imp fun a _ h => ⟨fun z => z.elim, nO a, .inl h⟩⟩
    · rw [List.getElem?_append_right (by simpa using hi), List.getElem?_replicate] at e
      split at e
      · cases e
        trivial
      · cases e
theorem fn_ok {L : Nat} {x qual : Str} {pa : Arguments} {bd : List Stmt} {scope : Scope} {f : Addr} {fd : FuncData} {N ps : List Str} (m : F) (sp : FSpec) (F : FunD K x qual pa bd scope [] [] f fd) (S : FnScope N ps scope) (h1 : m.ps = ps.length) (h2 : m.n = N.length)
    (chk : chkSs0 ⟨N, false⟩ scope m.body bd = true) (ok : OkSs (knsT P w K mg base ca L) m.body) (hsp : ∀ ds Q, sp ds Q → m.run ds Q) : FnOk P w K mg base (L2.CX P w) (L + 1) f fd ps (spOf K ca ps.length sp) := by
  have hpl : ps.length ≤ N.length := by have := congrArg List.length S.pre; rw [List.length_take] at this; omega
  refine F.ok S (fun vs H Q E h => ?_) (fun cdv A outer s H vs Q E hr h => ?_)
  · obtain ⟨_, _, _, h, _⟩ := h
    exact h
  · have c : CtxS (cxOf (L2.CX P w) P w K mg base N qual scope f cdv A outer s H E) scope ⟨N, false⟩ ca (fun _ _ _ => False) L (fun cls d _ H => E cls d H) :=
      ⟨⟨rfl, S.nd, rfl, fun _ => rfl, fun _ => hr, hr.units, fun _ _ _ z => z.elim, fun _ _ _ _ z => z, takes_of rfl rfl rfl rfl, S.kind⟩, passes_of rfl, fun _ => rfl, fun _ => rfl, rfl⟩
    have B := sndSs0 (K := K) (ca := ca) m.body c rfl chk ok
    refine ⟨_, B.1, ?_⟩
    obtain ⟨ds, Sc, Ac, hl, hS, r, Qo, hq, hQ⟩ := h
    have hrun := hsp ds Qo hq
    unfold Dv.F.run at hrun
    obtain ⟨hd, hrun⟩ := hrun
    have R := start_rel (ca := ca) (N := N) (n := m.n) hS r h2 (by rw [hl]; exact hpl)
    rw [hd] at R
    refine B.2 (calleeC K ca Sc Ac H) rfl rfl (fun _ _ _ z => z) _ _ H _ _ R ?_ hrun
    refine ⟨fun env σ H' R' h => ?_, fun env σ H' R' h => h.elim, fun env σ H' R' h => h.elim, fun v H' r s p h => ?_, fun env σ H' x cl d R' rx h => ?_⟩
    · exact hQ _ h .non H' R'.h0H Rep.non
    · exact hQ _ h v H' s p
    · exact hQ _ h cl d H' R'.h0H rx
/-- known at the level L -/
theorem known {L j : Nat} {x : Str} {sp : FSpec} {f : Addr} {fd : FuncData} {ps : List Str} (hj : j ≤ L) (hm : mg x = some (.ref f)) (hk : PySem.W.keepIn K (.ref f) = true) (hb : Binds K fd ps []) (F : FnOk P w K mg base (L2.CX P w) j f fd ps (spOf K ca ps.length sp)) :
    (knsT P w K mg base ca L).fn x ps.length sp := ⟨f, fd, ps, rfl, hm, hk, hb, F.mono hj⟩
theorem known_mono {L j : Nat} {x : Str} {n : Nat} {sp : FSpec} (hj : j ≤ L) (h : (knsT P w K mg base ca j).fn x n sp) : (knsT P w K mg base ca L).fn x n sp := by
  obtain ⟨f, fd, ps, h1, h2, h3, h4, h5⟩ := h
  exact ⟨f, fd, ps, h1, h2, h3, h4, h5.mono hj⟩
end
end Dv

namespace Dv
open PySem
/-! ### loops, by invariants -/
theorem forL_inv {t : Tg} {B : Ko → En → Prop} {k : Ko} {f : Fl} (I : Nat → En → Prop) : ∀ (ds : List D) (j : Nat) (env : En), I j env →
    (∀ (i : Nat) (d : D) (e : En) (K : En → Prop), ds[i]? = some d → I (j + i) e → (∀ e', I (j + i + 1) e' → K e') → tgW t (.v f d) e fun e' => B { k with nx := K, ct := K, bk := k.nx } e') →
    (∀ e, I (j + ds.length) e → k.nx e) → forL t B k f ds env
  | [], j, env, h, _, hend => hend env h
  | d :: ds, j, env, h, step, hend => by
    refine step 0 d env _ rfl h fun e' h' => ?_
    refine forL_inv I ds (j + 1) e' h' (fun i d' e K hd hi hK => ?_) fun e he => hend e ?_
    · have e1 : j + 1 + i = j + (i + 1) := by omega
      rw [e1] at hi hK
      exact step (i + 1) d' e K (by simpa using hd) hi hK
    · have e1 : j + (d :: ds).length = j + 1 + ds.length := by simp; omega
      rw [e1]; exact he
theorem for_inv {t : Tg} {B : Ko → En → Prop} {k : Ko} {f : Fl} {ds : List D} {env : En} (I : Nat → En → Prop) (h0 : I 0 env)
    (step : ∀ (i : Nat) (d : D) (e : En) (K : En → Prop), ds[i]? = some d → I i e → (∀ e', I (i + 1) e' → K e') → tgW t (.v f d) e fun e' => B { k with nx := K, ct := K, bk := k.nx } e') (hend : ∀ e, I ds.length e → k.nx e) : forL t B k f ds env :=
  forL_inv I ds 0 env h0 (fun i d e K hd hi hK => step i d e K hd (by simpa using hi) (by simpa using hK)) fun e he => hend e (by simpa using he)
theorem range_len {m n : Int} : (rangeL m n).length = (n - m).toNat := by simp [rangeL]
theorem range_get {m n : Int} {i : Nat} {d : D} (h : (rangeL m n)[i]? = some d) : d = .int (m + i) ∧ (i : Int) < n - m := by
  unfold rangeL at h
  rw [List.getElem?_map] at h
  cases q : (List.range (n - m).toNat)[i]? with
  | none => rw [q] at h; cases h
  | some j =>
    rw [q] at h
    obtain ⟨h1, h2⟩ := List.getElem?_eq_some_iff.mp q
    simp at h1 h2 h
    subst h2
    exact ⟨h.symm, by omega⟩
theorem for_range {t : Tg} {B : Ko → En → Prop} {k : Ko} {f : Fl} {m n : Int} {env : En} (I : Nat → En → Prop) (h0 : I 0 env)
    (step : ∀ (i : Nat) (e : En) (K : En → Prop), m + i < n → I i e → (∀ e', I (i + 1) e' → K e') → tgW t (.v f (.int (m + i))) e fun e' => B { k with nx := K, ct := K, bk := k.nx } e') (hend : ∀ e, I (n - m).toNat e → k.nx e) : forL t B k f (rangeL m n) env :=
  for_inv I h0 (fun i d e K hd hi hK => by
    obtain ⟨rfl, h⟩ := range_get hd
    exact step i e K (by omega) hi hK) fun e he => hend e (by rw [range_len] at he; exact he)
theorem for_ints {t : Tg} {B : Ko → En → Prop} {k : Ko} {f : Fl} {ns : List Int} {env : En} (I : Nat → En → Prop) (h0 : I 0 env)
    (step : ∀ (i : Nat) (n : Int) (e : En) (K : En → Prop), ns[i]? = some n → I i e → (∀ e', I (i + 1) e' → K e') → tgW t (.v f (.int n)) e fun e' => B { k with nx := K, ct := K, bk := k.nx } e') (hend : ∀ e, I ns.length e → k.nx e) : forL t B k f (ns.map D.int) env :=
  for_inv I h0 (fun i d e K hd hi hK => by
    rw [List.getElem?_map] at hd
    cases q : ns[i]? with
    | none => rw [q] at hd; cases hd
    | some n =>
      rw [q] at hd
      cases hd
      exact step i n e K q hi hK) fun e he => hend e (by simpa using he)
theorem cut_map {α β : Type} (g : α → β) (xs : List α) (l h : Option Int) : cut (xs.map g) l h = (cut xs l h).map g := by
  simp [cut, List.map_drop, List.map_take]
theorem whl_by {α : Type} {T : En → (Bool → Prop) → (Exn → Prop) → Prop} {B : Ko → En → Prop} {k : Ko} {env : En} (st : α → En) (I : α → Prop) (μ : α → Nat) (a0 : α) (he : env = st a0) (h0 : I a0)
    (step : ∀ (a : α) (K : En → Prop), I a → (∀ a', μ a' < μ a → I a' → K (st a')) → T (st a) (fun b => if b = true then B { k with nx := K, ct := K, bk := k.nx } (st a) else k.nx (st a)) fun x => k.ex x (st a)) : whlW T B k env := by
  refine ⟨fun n e => ∃ a, I a ∧ μ a = n ∧ e = st a, ⟨μ a0, a0, h0, rfl, he⟩, ?_⟩
  rintro n e ⟨a, hI, rfl, rfl⟩
  exact step a _ hI fun a' hm hI' => ⟨μ a', hm, a', hI', rfl, rfl⟩
/-- each of xs below its width -/
def inR : List Int → List Int → Prop
  | [], [] => True
  | x :: xs, w :: ws => (0 ≤ x ∧ x < w) ∧ inR xs ws
  | _, _ => False
theorem inR.len : ∀ {xs ws : List Int}, inR xs ws → xs.length = ws.length
  | [], [], _ => rfl
  | x :: xs, w :: ws, h => by simpa using inR.len h.2
theorem inR.snoc : ∀ {xs ws : List Int} {x w : Int}, inR xs ws → 0 ≤ x → x < w → inR (xs ++ [x]) (ws ++ [w])
  | [], [], x, w, _, h1, h2 => ⟨⟨h1, h2⟩, trivial⟩
  | y :: ys, v :: vs, x, w, h, h1, h2 => ⟨h.1, inR.snoc h.2 h1 h2⟩
/-! ### comprehensions of pure things -/
theorem compL_all {t : Tg} {C : En → (Bool → Prop) → Prop} {B : En → (R → Prop) → Prop} {f : Fl} {env : En} : ∀ {ds : List D} {Q : Fl → List D → Prop} (g : Nat → D), (∀ i, (g i).pure = true) →
    (∀ (i : Nat) (d : D) (K : R → Prop) (K2 : Prop), ds[i]? = some d → K (.v .fro (g i)) → tgW t (.v f d) env fun e => C e fun b => if b = true then B e K else K2) →
    Q .fro ((List.range ds.length).map g) → compL t C B f env ds Q
  | [], Q, g, _, _, h => h
  | d :: ds, Q, g, hp, hs, h => by
    refine hs 0 d _ _ rfl ?_
    refine compL_all (fun i => g (i + 1)) (fun i => hp _) (fun i d' K K2 hd hK => hs (i + 1) d' K K2 (by simpa using hd) hK) ?_
    have e1 : (R.v .fro (g 0)).fl = .fro := by show (if (g 0).pure then Fl.fro else .fro) = .fro; simp
    rw [e1]
    have e2 : (List.range (d :: ds).length).map g = g 0 :: (List.range ds.length).map fun i => g (i + 1) := by
      rw [List.length_cons, List.range_succ_eq_map, List.map_cons, List.map_map]; rfl
    rw [e2] at h
    exact h
theorem compL_map {α : Type} {t : Tg} {C : En → (Bool → Prop) → Prop} {B : En → (R → Prop) → Prop} {f : Fl} {env : En} (φ ψ : α → D) (hp : ∀ x, (ψ x).pure = true) : ∀ {xs : List α} {Q : Fl → List D → Prop},
    (∀ (x : α) (K : R → Prop) (K2 : Prop), x ∈ xs → K (.v .fro (ψ x)) → tgW t (.v f (φ x)) env fun e => C e fun b => if b = true then B e K else K2) →
    Q .fro (xs.map ψ) → compL t C B f env (xs.map φ) Q
  | [], Q, _, h => h
  | x :: xs, Q, hs, h => by
    refine hs x _ _ List.mem_cons_self ?_
    refine compL_map φ ψ hp (fun y K K2 hy hK => hs y K K2 (List.mem_cons_of_mem _ hy) hK) ?_
    have e1 : (R.v .fro (ψ x)).fl = .fro := by show (if (ψ x).pure then Fl.fro else .fro) = .fro; simp
    rw [e1]
    exact h
theorem compL_range {t : Tg} {C : En → (Bool → Prop) → Prop} {B : En → (R → Prop) → Prop} {f : Fl} {env : En} {m n : Int} {Q : Fl → List D → Prop} (ψ : Nat → D) (hp : ∀ x, (ψ x).pure = true)
    (hs : ∀ (i : Nat) (K : R → Prop) (K2 : Prop), m + i < n → K (.v .fro (ψ i)) → tgW t (.v f (.int (m + i))) env fun e => C e fun b => if b = true then B e K else K2)
    (h : Q .fro ((List.range (n - m).toNat).map ψ)) : compL t C B f env (rangeL m n) Q :=
  compL_map (fun i : Nat => .int (m + i)) ψ hp (fun i K K2 hi hK => hs i K K2 (by have := List.mem_range.mp hi; omega) hK) h
theorem intsOf_map {α : Type} (h : α → Int) : ∀ xs : List α, intsOf (xs.map fun x => .int (h x)) = some (xs.map h)
  | [] => rfl
  | x :: xs => by
    show (intsOf (xs.map fun x => .int (h x))).map (h x :: ·) = _
    rw [intsOf_map h xs]; rfl
theorem blsOf_map {α : Type} (h : α → Bool) : ∀ xs : List α, blsOf (xs.map fun x => .bl (h x)) = some (xs.map h)
  | [] => rfl
  | x :: xs => by
    show (blsOf (xs.map fun x => .bl (h x))).map (h x :: ·) = _
    rw [blsOf_map h xs]; rfl
/-! ### the law's end -/
def sp_law : FSpec := fun ds Q => ∃ ns : List Int, ds = [.scr ns] ∧ ns.length ≤ 63 ∧ Q (.ret (.v .fro (.bl true)))
theorem law_true {Q : Out → Prop} (ns : List Int) (hl : ns.length ≤ 63) (h : Q (.ret (.v .fro (.bl true)))) : sp_law [.scr ns] Q := ⟨ns, rfl, hl, h⟩
end Dv

namespace Dv
open PySem PySem.Spec PyProof.Rows L2
theorem law_start {K : PySem.W.Frag} {ca : CaL} {H : Hp} {a : Addr} {ns : List Int} (hS : SqL K H a (ns.map V.int)) (hl : ns.length ≤ 63) : spOf K ca 1 sp_law [.ref a] H (fun v _ => v = .bl true) fun _ _ _ => False := by
  refine ⟨[.scr ns], fun b ms => b = a ∧ ms = ns, fun _ => False, rfl, fun b ms h => by rw [h.1, h.2]; exact hS, RepL.cons (.scr ⟨rfl, rfl⟩) RepL.nil, fun o => o = .ret (.v .fro (.bl true)), ⟨ns, rfl, hl, rfl⟩, fun o ho => ?_⟩
  subst ho
  intro v H' _ r
  have r : Rep _ _ _ (.bl true) v := r
  cases r
  rfl
theorem cx_no {P : Program} {w : World} {H : Hp} {s : Shared} {e : Value} {s' : Shared} {o : List Env} (h : L2.CX P w o H s (fun _ _ _ => False) e s') : False := by
  obtain ⟨_, _, _, _, _, _, _, _, _, _, _, _, z⟩ := h
  exact z.elim
theorem cx0_of {P : Program} {w : World} {K : PySem.W.Frag} {mg : Str → Option Value} {base : Heap} {k : Nat} {f : Addr} {fd : FuncData} {ps : List Str} {sp : Sp} (F : FnOk P w K mg base (L2.CX P w) k f fd ps sp) :
    FnOk P w K mg base L2.CX0 k f fd ps (fun vs H Q _ => sp vs H Q fun _ _ _ => False) := by
  refine ⟨fun vs H Q E h => F.len _ _ _ _ h, fun A outer s H args us vs Q E hr e b v h => codeAny_mono (F.run A outer s H args us vs Q _ hr e b v h) fun r s' q => ?_⟩
  cases r with
  | error e => exact (cx_no q).elim
  | ok fl => cases fl <;> exact q
/-! ### the head's facts, with a look of one's own -/
def obsK (fa : List He.Fa) (fn : List He.DefD) (ck : PySem.W.Frag → Bool) (K : PySem.W.Frag) : He.AlD × Bool := (He.obsD fa fn K, ck K)
def obsC (n : Nat) (fa : List He.Fa) (fn : List He.DefD) (ck : PySem.W.Frag → Bool) (g : Addr → Option Obj) : He.AlD × Bool := obsK fa fn ck (He.frG g (He.asD g n))
def hookC (n : Nat) (fa : List He.Fa) (fn : List He.DefD) (ck : PySem.W.Frag → Bool) : PySem.W.Hook where
  α := He.AlD × Bool
  obs := fun s => obsC n fa fn ck s.heap.get?
  val := fun _ => (He.valD fn, true)
  says := fun _ h => ∃ K : PySem.W.Frag, K.In h ∧ He.SaysD fa fn K ∧ ck K = true
  of := fun _ _ e => ⟨_, He.frG_in, congrArg (fun z : He.AlD × Bool => z.1) e, congrArg (fun z : He.AlD × Bool => z.2) e⟩
  keeps := fun _ _ _ ⟨K, hK, c⟩ k => ⟨K, PySem.W.Frag.In.keeps hK k, c⟩
theorem obsC_eq {n : Nat} {fa : List He.Fa} {fn : List He.DefD} {ck : PySem.W.Frag → Bool} {g : Addr → Option Obj} {s : Shared} (h : ∀ a, g a = s.heap.get? a) : obsC n fa fn ck g = (hookC n fa fn ck).obs s := by
  have e : g = s.heap.get? := funext h
  rw [e] <;> rfl
/-- the error classes l; those without an own __init__ -/
def excB (K : PySem.W.Frag) (C : Addr) : Bool :=
  (He.eqO (PySem.W.findIn K (.ref C) "__getattribute__") (some (some (.builtin "BaseException.__getattribute__"))) && He.eqO (PySem.W.findIn K (.ref C) "__getattr__") (some none)) &&
  ((decide (PySem.W.subIn K (.ref C) (.type "BaseException") = some true) && PySem.W.hasDictIn K C) &&
  ((He.eqO (PySem.W.findIn K (.ref C) "__class__") (some (some (.builtin "object.__class__"))) && He.eqO (PySem.W.specialIn K (.builtin "object.__class__") "__get__") (some (some (.builtin "getset_descriptor.__get__")))) &&
  (decide (PySem.W.takesIn K (.builtin "object.__class__") = some true) && decide (PySem.W.mroIn K C (.type "object") = some true))))
theorem excB_ok {K : PySem.W.Frag} {C : Addr} (h : excB K C = true) : ExcC K C := by
  unfold excB at h
  simp only [Bool.and_eq_true, decide_eq_true_eq] at h
  obtain ⟨⟨h1, h2⟩, ⟨h3, h4⟩, ⟨h5, h6⟩, h7, h8⟩ := h
  exact ⟨He.eqO_ok h1, He.eqO_ok h2, h3, h4, He.eqO_ok h5, He.eqO_ok h6, h7, h8⟩
def clsB (K : PySem.W.Frag) (l : List Str) (c : Str) : Bool :=
  (l.all fun t => decide (PySem.W.exmOne K (.ref (He.ga K c)) (.ref (He.ga K t)) = some (subCls c t)) && decide (PySem.W.kitOne K (.ref (He.ga K c)) (.ref (He.ga K t)) = some (subCls c t))) &&
  ((decide (PySem.W.kitOne K (.ref (He.ga K c)) (.type "ValueError") = some true) && excB K (He.ga K c)) &&
  ((He.eqO (PySem.W.findIn K (.ref (He.ga K c)) "divisor") (some none) && He.eqO (PySem.W.findIn K (.ref (He.ga K c)) "name") (some none)) && He.eqO (PySem.W.nsIn K mainGlobals c) (some (some (.ref (He.ga K c))))))
def newB (K : PySem.W.Frag) (c : Str) : Bool :=
  (PySem.W.excIn K (He.ga K c) He.veBase "ValueError.__new__" && PySem.W.keepIn K (.ref (He.ga K c))) && (decide (PySem.W.subIn K (.ref (He.ga K c)) (.type "BaseException") = some true) && (decide (PySem.W.typeIn K (.ref (He.ga K c)) = some (.type "type")) && He.eqO (PySem.W.nsIn K mainGlobals c) (some (some (.ref (He.ga K c))))))
def errB (l pl : List Str) (K : PySem.W.Frag) : Bool := (l.all fun c => clsB K l c) && pl.all fun c => newB K c
theorem errB_ok {l pl : List Str} {K : PySem.W.Frag} {h : Heap} {mg : Str → Option Value} (X : K.In h) (G : h.Ns mainGlobals mg) (e : errB l pl K = true) : ErrK K ⟨fun x => He.ga K x, l⟩ mg ∧
    ∀ c ∈ pl, ∃ (B newId initId : String) (bm : List Value), ExcBaseFacts B newId initId bm ∧ PySem.W.excIn K (He.ga K c) bm newId = true ∧ mg c = some (.ref (He.ga K c)) ∧ PySem.W.keepIn K (.ref (He.ga K c)) = true ∧ (∀ (M : Model) (h : Heap), K.In h → PySem.W.Looks M h (isSubtype (.ref (He.ga K c)) (.type "BaseException")) true ∧ PySem.W.Looks M h (typeOf (.ref (He.ga K c))) (.type "type")) := by
  unfold errB at e
  rw [Bool.and_eq_true] at e
  have e1 : ∀ c ∈ l, clsB K l c = true := List.all_eq_true.mp e.1
  have e2 : ∀ c ∈ pl, newB K c = true := List.all_eq_true.mp e.2
  have e3 : ∀ c ∈ l, (∀ t ∈ l, PySem.W.exmOne K (.ref (He.ga K c)) (.ref (He.ga K t)) = some (subCls c t) ∧ PySem.W.kitOne K (.ref (He.ga K c)) (.ref (He.ga K t)) = some (subCls c t)) ∧
      (PySem.W.kitOne K (.ref (He.ga K c)) (.type "ValueError") = some true ∧ ExcC K (He.ga K c)) ∧ (PySem.W.findIn K (.ref (He.ga K c)) "divisor" = some none ∧ PySem.W.findIn K (.ref (He.ga K c)) "name" = some none) ∧ mg c = some (.ref (He.ga K c)) := by
    intro c hc
    have q := e1 c hc
    unfold clsB at q
    rw [Bool.and_eq_true, Bool.and_eq_true, Bool.and_eq_true, Bool.and_eq_true, Bool.and_eq_true] at q
    obtain ⟨q1, ⟨q2, q3⟩, ⟨q4, q5⟩, q6⟩ := q
    refine ⟨fun t ht => ?_, ⟨of_decide_eq_true q2, excB_ok q3⟩, ⟨He.eqO_ok q4, He.eqO_ok q5⟩, PySem.W.mg_of X G (He.eqO_ok q6)⟩
    have q7 := List.all_eq_true.mp q1 t ht
    rw [Bool.and_eq_true] at q7
    exact ⟨of_decide_eq_true q7.1, of_decide_eq_true q7.2⟩
  refine ⟨⟨fun c hc t ht => ((e3 c hc).1 t ht).1, fun c hc t ht => ((e3 c hc).1 t ht).2, fun c hc => (e3 c hc).2.1.1, fun c hc => (e3 c hc).2.1.2, fun c hc => (e3 c hc).2.2.1, fun c hc => (e3 c hc).2.2.2⟩, fun c hc => ?_⟩
  have q := e2 c hc
  unfold newB at q
  rw [Bool.and_eq_true, Bool.and_eq_true, Bool.and_eq_true, Bool.and_eq_true] at q
  obtain ⟨⟨q1, q2⟩, q3, q4, q5⟩ := q
  exact ⟨_, _, _, _, PySem.F.excBase_ValueError, q1, PySem.W.mg_of X G (He.eqO_ok q5), q2, fun M h k => ⟨PySem.W.looks_subIn k (of_decide_eq_true q3), PySem.W.looks_typeIn k (of_decide_eq_true q4)⟩⟩
/-! ### a written tuple at the top -/
def tupB (K : PySem.W.Frag) (x : Str) (ds : List D) : Bool := He.eqO (PySem.W.nsIn K mainGlobals x) (some (some (.ref (He.ga K x)))) && litB K (.tup ds) (.ref (He.ga K x))
theorem tupB_ok {K : PySem.W.Frag} {h : Heap} {mg : Str → Option Value} {x : Str} {ds : List D} (X : K.In h) (G : h.Ns mainGlobals mg) (e : tupB K x ds = true) :
    ∃ u, mg x = some u ∧ RelV (gV K x (.tup ds)) u ∧ (∀ C : Cc, C.K = K → ∀ O Hb H f, RepR C O Hb H (.v f (.tup ds)) (gV K x (.tup ds))) := by
  unfold tupB at e
  rw [Bool.and_eq_true] at e
  refine ⟨_, PySem.W.mg_of X G (He.eqO_ok e.1), rfl, fun C hC O Hb H f => ?_⟩
  obtain ⟨v, r, t, hv⟩ := litB_ok (C := C) (P := Pf C O f) (H := H) hC _ _ e.2
  rw [hv _ rfl] at t
  exact t
/-! ### an error class with an own __init__ -/
def oexB (K : PySem.W.Frag) (C : Addr) : Bool :=
  (match K.lookup C with
  | some ⟨.type "type", _, .cls cd, sl⟩ => (match cd.mro, sl.toList with
    | .ref C' :: bm, [_, _, _, _, some (.builtin n), _] => C' == C && (n == "ValueError.__new__" && (!cd.hasDel && (cd.hasDict && PySem.HandSPX.refsVE bm)))
    | _, _ => false)
  | _ => false) &&
  (He.eqO (PySem.W.findIn K (.ref C) "__setattr__") (some (some (.builtin "object.__setattr__"))) &&
  (decide (PySem.W.subIn K (.ref C) (.type "BaseException") = some true) && (decide (PySem.W.typeIn K (.ref C) = some (.type "type")) && PySem.W.keepIn K (.ref C))))
theorem oexB_ok {K : PySem.W.Frag} {C : Addr} (h : oexB K C = true) : OexC K C := by
  unfold oexB at h
  rw [Bool.and_eq_true, Bool.and_eq_true, Bool.and_eq_true, Bool.and_eq_true] at h
  obtain ⟨h1, h2, h3, h4, h5⟩ := h
  refine ⟨?_, He.eqO_ok h2, of_decide_eq_true h3, of_decide_eq_true h4, h5⟩
  split at h1
  · rename_i dd cd sl ho
    split at h1
    · rename_i C' bm k0 k1 k2 k3 n k5 hm hs
      simp only [Bool.and_eq_true, beq_iff_eq, Bool.not_eq_true'] at h1
      obtain ⟨rfl, rfl, hdel, hdct, ht⟩ := h1
      obtain ⟨nm, bs, mro, ns, qn, hd, sn, sub, ab, col, del⟩ := cd
      dsimp only at hm hdel hdct
      subst hm hdel hdct
      have hsl : sl = #[k0, k1, k2, k3, some (.builtin "ValueError.__new__"), k5] := by
        obtain ⟨l⟩ := sl
        simp only at hs
        rw [hs]
      subst hsl
      exact ⟨nm, qn, ns, bs, bm, sn, sub, ab, col, dd, k0, k1, k2, k3, k5, ho, ht⟩
    · cases h1
  · cases h1
def iniB (K : PySem.W.Frag) (x f : Str) : Bool :=
  oexB K (He.ga K x) && (He.eqO (PySem.W.findIn K (.ref (He.ga K x)) "__init__") (some (some (.ref (He.fAd K (x, some "__init__"))))) &&
  (decide (PySem.W.typeIn K (.ref (He.fAd K (x, some "__init__"))) = some (.type "function")) && (He.eqO (PySem.W.findIn K (.ref (He.ga K x)) f) (some none) && He.eqO (PySem.W.nsIn K mainGlobals x) (some (some (.ref (He.ga K x)))))))
theorem iniB_ok {P : Program} {w : World} {K : PySem.W.Frag} {h : Heap} {mg : Str → Option Value} {base : Heap} {ca : CaL} {x f : Str} {fd : FuncData} {ps : List Str} (X : K.In h) (G : h.Ns mainGlobals mg) (e : iniB K x f = true) (hca : ca x = He.ga K x)
    (F : FnOk P w K mg base (L2.CX P w) 1 (He.fAd K (x, some "__init__")) fd ps (spI K f)) (b : Binds K fd ps []) : ExI P w K mg base ca x f := by
  unfold iniB at e
  rw [Bool.and_eq_true, Bool.and_eq_true, Bool.and_eq_true, Bool.and_eq_true] at e
  obtain ⟨e1, e2, e3, e4, e5⟩ := e
  refine ⟨_, fd, ps, ?_, ?_, of_decide_eq_true e3, F, b, ?_, ?_⟩
  · rw [show ca x = He.ga K x from hca]
    exact oexB_ok e1
  · rw [show ca x = He.ga K x from hca]
    exact He.eqO_ok e2
  · rw [show ca x = He.ga K x from hca]
    exact PySem.W.mg_of X G (He.eqO_ok e5)
  · rw [show ca x = He.ga K x from hca]
    exact He.eqO_ok e4
end Dv

namespace Dv
open PySem
def lim600 : Int := 2 ^ 600
theorem lt_lim {x : Int} (h : x ≤ 10 ^ 150) : x < lim600 := Int.lt_of_le_of_lt h (by decide +kernel)
theorem lim_div {x : Int} (h : 0 < x) (h2 : x < lim600) : divOk x := by
  unfold lim600 at h2
  exact divOk_of 600 (by omega) (by omega) (by decide) (by decide)
theorem fmod_sub (x y : Int) : x.fmod y = x - y * x.fdiv y := by
  have := Int.mul_fdiv_add_fmod x y
  omega
theorem fmod_neg_of {x y : Int} (h : y < 0) : y < x.fmod y ∧ x.fmod y ≤ 0 := by
  have h1 : x.fmod y = x % y + if 0 ≤ y ∨ y ∣ x then 0 else y := Int.fmod_eq_emod
  have e0 := Int.emod_nonneg x (show y ≠ 0 by omega)
  have e1 := Int.emod_lt_of_neg x h
  rw [h1]
  by_cases hd : 0 ≤ y ∨ y ∣ x
  · rw [if_pos hd]
    have : y ∣ x := by rcases hd with h2 | h2; · omega
                       · exact h2
    have := Int.emod_eq_zero_of_dvd this
    omega
  · rw [if_neg hd]
    have : x % y ≠ 0 := fun z => hd (.inr (Int.dvd_of_emod_eq_zero z))
    omega
theorem fmod_abs_lt {x y : Int} (h : ¬ y = 0) : (x.fmod y).natAbs < y.natAbs := by
  by_cases hy : 0 < y
  · have a := Int.fmod_nonneg_of_pos x hy
    have b := Int.fmod_lt_of_pos x hy
    omega
  · have := fmod_neg_of (x := x) (show y < 0 by omega)
    omega
theorem gcd_fmod (x y : Int) : Int.gcd y (x.fmod y) = Int.gcd x y := by
  rw [fmod_sub, Int.gcd_comm x y]
  have : x - y * x.fdiv y = x + y * (-x.fdiv y) := by rw [Int.mul_neg]; omega
  rw [this]
  exact Int.gcd_add_mul_left_right ..
theorem fmod_dvd {x y : Int} (h : y ∣ x) : x.fmod y = 0 := Int.fmod_eq_zero_of_dvd h
theorem mul60 {x y : Int} (a : -(10 ^ 60) < x) (b : x < 10 ^ 60) (c : -(10 ^ 60) < y) (d : y < 10 ^ 60) : (x * y).natAbs < 2 ^ 400 := by
  have e1 : x.natAbs < 2 ^ 200 := by omega
  have e2 : y.natAbs < 2 ^ 200 := by omega
  rw [Int.natAbs_mul, show (2 : Nat) ^ 400 = 2 ^ 200 * 2 ^ 200 from by decide +kernel]
  exact Nat.mul_lt_mul'' e1 e2
theorem mulOk60 {x y : Int} (a : -(10 ^ 60) < x) (b : x < 10 ^ 60) (c : -(10 ^ 60) < y) (d : y < 10 ^ 60) : mulOk x y := mulOk_w 200 200 (by omega) (by omega) (by decide) (by decide) (by decide)

/-! ### sizes -/
def fits (k : Nat) (x : Int) : Prop := x.natAbs < 2 ^ k
theorem fits.mono {a b : Nat} {x : Int} (h : fits a x) (hab : a ≤ b) : fits b x := Nat.lt_of_lt_of_le h (Nat.pow_le_pow_right (by decide) hab)
theorem fits.mul {a b : Nat} {x y : Int} (h : fits a x) (g : fits b y) : fits (a + b) (x * y) := by
  unfold fits
  rw [Int.natAbs_mul, Nat.pow_add]
  exact Nat.mul_lt_mul'' h g
theorem fits.le {a : Nat} {x y : Int} (h : fits a y) (hxy : x.natAbs ≤ y.natAbs) : fits a x := Nat.lt_of_le_of_lt hxy h
theorem fits.add {a : Nat} {x y : Int} (h : fits a x) (g : fits a y) : fits (a + 1) (x + y) := by
  unfold fits at *
  rw [Nat.pow_succ]
  omega
theorem fits.sub {a : Nat} {x y : Int} (h : fits a x) (g : fits a y) : fits (a + 1) (x - y) := by
  unfold fits at *
  rw [Nat.pow_succ]
  omega
theorem fits.neg {a : Nat} {x : Int} (h : fits a x) : fits a (-x) := by
  unfold fits at *
  omega
theorem fits.mulOk {a b : Nat} {x y : Int} (h : fits a x) (g : fits b y) (h0 : 0 < a) (h1 : 0 < b) (hh : a + b ≤ 1000000) : mulOk x y := mulOk_w a b h g h0 h1 hh
theorem fits.divOk {a : Nat} {x : Int} (h : fits a x) (hx : x ≠ 0) (h0 : 0 < a) (hh : a ≤ 9000) : divOk x := divOk_of a hx h h0 hh
theorem fits.fdiv {a : Nat} {x m : Int} (h : fits a x) (hm : 0 < m) : fits a (x.fdiv m) := by
  refine h.le ?_
  rw [Int.fdiv_eq_ediv_of_nonneg _ (by omega)]
  by_cases hx : 0 ≤ x
  · have := Int.ediv_nonneg hx (show 0 ≤ m by omega)
    have := Int.ediv_le_self m hx
    omega
  · have h1 : x / m < 0 := Int.ediv_neg_of_neg_of_pos (by omega) hm
    have h2 : x ≤ x / m := by
      rw [Int.le_ediv_iff_mul_le hm]
      have : x * (m - 1) ≤ 0 := Int.mul_nonpos_of_nonpos_of_nonneg (by omega) (by omega)
      rw [Int.mul_sub, Int.mul_one] at this
      omega
    omega
theorem fits.fmod {a : Nat} {x m : Int} (h : fits a m) (hm : 0 < m) : fits a (x.fmod m) := by
  refine h.le ?_
  have := Int.fmod_nonneg_of_pos x hm
  have := Int.fmod_lt_of_pos x hm
  omega
theorem fits_of {a : Nat} {x : Int} (h : x.natAbs < 2 ^ a) : fits a x := h
/-! ### sums -/
def sumN (f : Nat → Int) : Nat → Int
  | 0 => 0
  | n + 1 => sumN f n + f n
theorem sumN_congr {f g : Nat → Int} : ∀ {n : Nat}, (∀ k, k < n → f k = g k) → sumN f n = sumN g n
  | 0, _ => rfl
  | n + 1, h => by
    show sumN f n + f n = sumN g n + g n
    rw [sumN_congr fun k hk => h k (by omega), h n (by omega)]
theorem sumN_front (f : Nat → Int) : ∀ n : Nat, sumN f (n + 1) = f 0 + sumN (fun k => f (k + 1)) n
  | 0 => by simp [sumN]
  | n + 1 => by
    show sumN f (n + 1) + f (n + 1) = f 0 + (sumN (fun k => f (k + 1)) n + f (n + 1))
    rw [sumN_front f n]; omega
theorem sumN_add (f g : Nat → Int) : ∀ n : Nat, sumN (fun k => f k + g k) n = sumN f n + sumN g n
  | 0 => rfl
  | n + 1 => by
    show sumN (fun k => f k + g k) n + (f n + g n) = sumN f n + f n + (sumN g n + g n)
    rw [sumN_add f g n]; omega
theorem sumN_const (c : Int) : ∀ n : Nat, sumN (fun _ => c) n = c * n
  | 0 => by simp [sumN]
  | n + 1 => by
    show sumN (fun _ => c) n + c = c * ((n + 1 : Nat) : Int)
    rw [sumN_const c n, Int.natCast_add, Int.mul_add]; simp
theorem sumN_mul (c : Int) (f : Nat → Int) : ∀ n : Nat, sumN (fun k => c * f k) n = c * sumN f n
  | 0 => by simp [sumN]
  | n + 1 => by
    show sumN (fun k => c * f k) n + c * f n = c * (sumN f n + f n)
    rw [sumN_mul c f n, Int.mul_add]
theorem sumN_id (n : Nat) : 2 * sumN (fun k => (k : Int)) n = n * (n - 1) := by
  induction n with
  | zero => rfl
  | succ n ih =>
    show 2 * (sumN (fun k => (k : Int)) n + n) = ((n + 1 : Nat) : Int) * (((n + 1 : Nat) : Int) - 1)
    rw [Int.mul_add, ih, Int.natCast_add]
    have : ((n : Int) + (1 : Nat)) * ((n : Int) + (1 : Nat) - 1) = n * (n - 1) + 2 * n := by
      have e : (n : Int) + (1 : Nat) - 1 = n := by simp
      rw [e, Int.add_mul, Int.mul_sub]; simp; omega
    rw [this]
theorem tri_eq (n : Nat) : ((n : Int) * (n - 1)).fdiv 2 = sumN (fun k => (k : Int)) n := by
  rw [← sumN_id n, Int.fdiv_eq_ediv_of_nonneg _ (by decide), Int.mul_ediv_cancel_left _ (by decide)]
theorem sumN_list (f : Nat → Int) (n : Nat) : ((List.range n).map f).sum = sumN f n := by
  induction n with
  | zero => rfl
  | succ n ih => rw [List.range_succ, List.map_append, List.sum_append, ih]; simp [sumN]
/-! ### the sum of the floors -/
def flo (n : Nat) (m a b : Int) : Int := sumN (fun k => (a * k + b) / m) n
theorem flo_split {m : Int} (hm : 0 < m) (n : Nat) (a b : Int) : flo n m a b = sumN (fun k => (k : Int)) n * (a / m) + n * (b / m) + flo n m (a % m) (b % m) := by
  have key : ∀ k : Nat, (a * k + b) / m = (a / m) * k + b / m + (a % m * k + b % m) / m := fun k => by
    have e : a * k + b = (a % m * k + b % m) + ((a / m) * k + b / m) * m := by
      have h1 := Int.emod_add_mul_ediv a m
      have h2 := Int.emod_add_mul_ediv b m
      have h3 : a * (k : Int) = a % m * k + (a / m) * k * m := by
        rw [Int.mul_right_comm (a / m), ← Int.add_mul, Int.mul_comm (a / m) m, h1]
      rw [h3, Int.add_mul]
      have h4 : b / m * m = m * (b / m) := Int.mul_comm _ _
      omega
    rw [e, Int.add_mul_ediv_right _ _ (by omega)]
    omega
  unfold flo
  rw [sumN_congr fun k _ => key k, sumN_add (fun k => (a / m) * (k : Int) + b / m) (fun k => (a % m * k + b % m) / m), sumN_add (fun k => (a / m) * (k : Int)) (fun _ => b / m), sumN_mul, sumN_const, Int.mul_comm (a / m), Int.mul_comm (b / m)]
theorem flo_turn {m a b : Int} (hm : 0 < m) (ha0 : 0 ≤ a) (ha : a < m) (hb0 : 0 ≤ b) (hb : b < m) : ∀ n : Nat, flo n m a b = flo ((a * n + b) / m).toNat a m ((a * n + b) % m)
  | 0 => by
    have e : (a * ((0 : Nat) : Int) + b) / m = 0 := by
      rw [show a * ((0 : Nat) : Int) = 0 by simp, Int.zero_add]
      exact Int.ediv_eq_zero_of_lt hb0 hb
    rw [e]; rfl
  | n + 1 => by
    have ih := flo_turn hm ha0 ha hb0 hb n
    show flo n m a b + (a * n + b) / m = _
    rw [ih]
    have hn : 0 ≤ a * (n : Int) := Int.mul_nonneg ha0 (by omega)
    have e1 : a * ((n + 1 : Nat) : Int) + b = a * n + b + a := by rw [Int.natCast_add, Int.mul_add]; simp; omega
    rw [e1]
    generalize hh : a * (n : Int) + b = h at *
    have h0 : 0 ≤ h := by omega
    have t0 := Int.ediv_nonneg h0 (show 0 ≤ m by omega)
    have r0 := Int.emod_nonneg h (show m ≠ 0 by omega)
    have r1 := Int.emod_lt_of_pos h hm
    have eh := Int.emod_add_mul_ediv h m
    obtain ⟨t, ht⟩ := Int.eq_ofNat_of_zero_le t0
    rw [ht] at eh ⊢
    generalize hr : h % m = r at *
    have eh : h = r + t * m := by rw [Int.mul_comm]; omega
    by_cases za : a = 0
    · subst za
      rw [Int.add_zero, ht, hr]
      have : flo t 0 m r = 0 := by
        unfold flo
        rw [sumN_congr (g := fun _ => 0) fun k _ => by simp, sumN_const]; simp
      simp at hh
      have : h / m = 0 := by rw [← hh]; exact Int.ediv_eq_zero_of_lt hb0 hb
      have : t = 0 := by omega
      subst this
      rfl
    have pa : 0 < a := by omega
    have up : ∀ k : Nat, (m * (k : Int) + (r + a)) / a = (m * k + r) / a + 1 := fun k => by
      rw [← Int.add_assoc, Int.add_ediv_of_dvd_right (Int.dvd_refl a), Int.ediv_self (by omega)]
    by_cases hc : r + a < m
    · have e2 : (h + a) / m = t := by
        rw [eh, show r + (t : Int) * m + a = (r + a) + t * m by omega, Int.add_mul_ediv_right _ _ (by omega), Int.ediv_eq_zero_of_lt (by omega) hc]; simp
      have e3 : (h + a) % m = r + a := by
        rw [eh, show r + (t : Int) * m + a = (r + a) + t * m by omega, Int.add_mul_emod_self_right, Int.emod_eq_of_lt (by omega) hc]
      rw [e2, e3]
      show flo t a m r + t = flo t a m (r + a)
      unfold flo
      rw [sumN_congr fun k _ => up k, sumN_add (fun k => (m * (k : Int) + r) / a) (fun _ => 1), sumN_const]; simp
    · have e2 : (h + a) / m = t + 1 := by
        rw [eh, show r + (t : Int) * m + a = (r + a - m) + (t + 1) * m by rw [Int.add_mul]; omega, Int.add_mul_ediv_right _ _ (by omega), Int.ediv_eq_zero_of_lt (by omega) (by omega)]; simp
      have e3 : (h + a) % m = r + a - m := by
        rw [eh, show r + (t : Int) * m + a = (r + a - m) + (t + 1) * m by rw [Int.add_mul]; omega, Int.add_mul_emod_self_right, Int.emod_eq_of_lt (by omega) (by omega)]
      rw [e2, e3]
      show flo t a m r + t = flo (t + 1) a m (r + a - m)
      unfold flo
      rw [sumN_front]
      have z : (m * ((0 : Nat) : Int) + (r + a - m)) / a = 0 := by
        rw [show m * ((0 : Nat) : Int) = 0 by simp, Int.zero_add]
        exact Int.ediv_eq_zero_of_lt (by omega) (by omega)
      rw [z, Int.zero_add]
      have sh : ∀ k : Nat, (m * ((k + 1 : Nat) : Int) + (r + a - m)) / a = (m * k + r) / a + 1 := fun k => by
        rw [← up k]
        congr 1
        rw [Int.natCast_add, Int.mul_add]; simp; omega
      rw [sumN_congr fun k _ => sh k, sumN_add (fun k => (m * (k : Int) + r) / a) (fun _ => 1), sumN_const]; simp
theorem step_len {len : Nat} {m a P : Int} (hm : 0 < m) (h1 : 2 ^ len * (m * (a % m)) ≤ P) (hl : 0 < a % m) : 2 ^ (len + 1) * ((a % m) * (m % (a % m))) ≤ P ∧ (2 : Int) ^ (len + 1) ≤ 2 * P + 1 := by
  have hlm := Int.emod_lt_of_pos a hm
  generalize a % m = l at *
  have r0 := Int.emod_nonneg m (show l ≠ 0 by omega)
  have r1 := Int.emod_lt_of_pos m hl
  have e := Int.emod_add_mul_ediv m l
  have q1 : 1 ≤ m / l := by rw [Int.le_ediv_iff_mul_le hl]; omega
  have q2 : l * 1 ≤ l * (m / l) := Int.mul_le_mul_of_nonneg_left q1 (by omega)
  generalize m % l = r at *
  have p0 : (0 : Int) < 2 ^ len := Int.pow_pos (by decide)
  have e2 : (2 : Int) ^ (len + 1) = 2 ^ len * 2 := Int.pow_succ ..
  have k1 : 2 * (l * r) ≤ m * l := by
    have : l * (2 * r) ≤ l * m := Int.mul_le_mul_of_nonneg_left (by omega) (by omega)
    rw [Int.mul_comm m l, ← Int.mul_assoc, Int.mul_comm 2 l, Int.mul_assoc]; exact this
  refine ⟨?_, ?_⟩
  · rw [e2, Int.mul_assoc]
    exact Int.le_trans (Int.mul_le_mul_of_nonneg_left k1 (Int.le_of_lt p0)) h1
  · have : 1 ≤ m * l := Int.mul_pos hm hl
    have : 2 ^ len * 1 ≤ 2 ^ len * (m * l) := Int.mul_le_mul_of_nonneg_left this (Int.le_of_lt p0)
    rw [e2]; omega
theorem len_of {len k : Nat} {P : Int} (h : (2 : Int) ^ len ≤ 2 * P + 1) (hP : P < 2 ^ k) : len ≤ k + 1 := by
  by_cases hk : len ≤ k + 1
  · exact hk
  · exfalso
    have h1 : (2 : Int) ^ (k + 2) ≤ 2 ^ len := by
      have : (2 : Nat) ^ (k + 2) ≤ 2 ^ len := Nat.pow_le_pow_right (by decide) (by omega)
      exact_mod_cast this
    have e : (2 : Int) ^ (k + 2) = 2 ^ k * 4 := by rw [Int.pow_add]; rfl
    have : (0 : Int) < 2 ^ k := Int.pow_pos (by decide)
    omega

theorem step_len2 {len : Nat} {m l P : Int} (h1 : 2 ^ len * (m * l) ≤ P) (hl : 0 < l) (hlm : l < m) : 2 ^ (len + 1) * (l * (m % l)) ≤ P ∧ (2 : Int) ^ (len + 1) ≤ 2 * P + 1 := by
  have e : l % m = l := Int.emod_eq_of_lt (by omega) hlm
  have := step_len (len := len) (m := m) (a := l) (P := P) (by omega) (by rw [e]; exact h1) (by rw [e]; exact hl)
  rw [e] at this
  exact this
/-! ### continued fractions -/
def cfL (a m : Int) : List (Int × Int) :=
  if h : 0 < m then (a / m, a % m) :: (if a % m = 0 then [] else cfL m (a % m)) else []
termination_by m.toNat
decreasing_by
  have := Int.emod_lt_of_pos a h
  have := Int.emod_nonneg a (show m ≠ 0 by omega)
  omega
theorem cfL_eq {a m : Int} (h : 0 < m) : cfL a m = (a / m, a % m) :: (if a % m = 0 then [] else cfL m (a % m)) := by
  rw [cfL, dif_pos h]
def foldC : List Int → Int × Int
  | [] => (1, 0)
  | p :: ps => (p * (foldC ps).1 + (foldC ps).2, (foldC ps).1)
theorem foldC_one (p : Int) : foldC [p] = (p, 1) := by simp [foldC]
/-- the parts of a / m fold back -/
theorem fold_cf : ∀ (n : Nat) (a m : Int), m.toNat ≤ n → 0 < m → foldC ((cfL a m).map (·.1)) = (a / (Int.gcd a m : Nat), m / (Int.gcd a m : Nat))
  | 0, a, m, h, hm => by omega
  | n + 1, a, m, h, hm => by
    have r0 := Int.emod_nonneg a (show m ≠ 0 by omega)
    have r1 := Int.emod_lt_of_pos a hm
    have hd := Int.emod_add_mul_ediv a m
    rw [cfL_eq hm]
    by_cases hr : a % m = 0
    · rw [if_pos hr]
      have dv : m ∣ a := Int.dvd_of_emod_eq_zero hr
      have g : (Int.gcd a m : Nat) = m.natAbs := by
        rw [Int.gcd_comm]
        exact Int.gcd_eq_natAbs_left dv
      have g2 : ((Int.gcd a m : Nat) : Int) = m := by rw [g]; omega
      rw [g2, Int.ediv_self (by omega)]
      simp [foldC]
    · rw [if_neg hr]
      have ih := fold_cf n m (a % m) (by omega) (by omega)
      have gg : Int.gcd m (a % m) = Int.gcd a m := by
        rw [← Int.fmod_eq_emod_of_nonneg _ (by omega : 0 ≤ m)]
        exact gcd_fmod a m
      show ((a / m) * (foldC ((cfL m (a % m)).map (·.1))).1 + (foldC ((cfL m (a % m)).map (·.1))).2, (foldC ((cfL m (a % m)).map (·.1))).1) = _
      rw [ih, gg]
      have gp : 0 < Int.gcd a m := by
        rcases Nat.eq_zero_or_pos (Int.gcd a m) with q | q
        · have := (Int.gcd_eq_zero_iff.mp q).2; omega
        · exact q
      obtain ⟨x, hx⟩ : ((Int.gcd a m : Nat) : Int) ∣ a := Int.gcd_dvd_left ..
      obtain ⟨y, hy⟩ : ((Int.gcd a m : Nat) : Int) ∣ m := Int.gcd_dvd_right ..
      generalize ((Int.gcd a m : Nat) : Int) = g at *
      have gp : g ≠ 0 := by
        rintro rfl
        omega
      have hrem : a % m = g * (x - y * (a / m)) := by
        rw [Int.mul_sub, ← hx, ← Int.mul_assoc, ← hy]; omega
      have e1 : a / g = x := by rw [hx]; exact Int.mul_ediv_cancel_left _ gp
      have e2 : m / g = y := by rw [hy]; exact Int.mul_ediv_cancel_left _ gp
      have e3 : (a % m) / g = x - y * (a / m) := by rw [hrem]; exact Int.mul_ediv_cancel_left _ gp
      rw [e1, e2, e3, Int.mul_comm (a / m)]
      simp
      omega
/-- good parts: from 1 on, the last from 2 on -/
def goodP : List Int → Prop
  | [] => False
  | [p] => 2 ≤ p
  | p :: q :: r => 1 ≤ p ∧ goodP (q :: r)
theorem foldC_good : ∀ {ps : List Int}, goodP ps → 0 < (foldC ps).2 ∧ (foldC ps).2 < (foldC ps).1
  | [p], h => by
    have h : 2 ≤ p := h
    rw [foldC_one]; exact ⟨show (0 : Int) < 1 by decide, show (1 : Int) < p by omega⟩
  | p :: q :: r, h => by
    have ih := foldC_good h.2
    show 0 < (foldC (q :: r)).1 ∧ (foldC (q :: r)).1 < p * (foldC (q :: r)).1 + (foldC (q :: r)).2
    have h1 : 1 ≤ p := h.1
    have : 1 * (foldC (q :: r)).1 ≤ p * (foldC (q :: r)).1 := Int.mul_le_mul_of_nonneg_right h1 (by omega)
    omega
theorem cf_fold : ∀ {ps : List Int} (p : Int), (ps = [] ∨ goodP ps) → (cfL (foldC (p :: ps)).1 (foldC (p :: ps)).2).map (·.1) = p :: ps
  | [], p, _ => by
    rw [foldC_one]
    show (cfL p 1).map (·.1) = [p]
    rw [cfL_eq (show (0 : Int) < 1 by decide)]
    simp
  | q :: r, p, h => by
    have hg : goodP (q :: r) := by rcases h with h | h; · cases h
                                   · exact h
    have g := foldC_good hg
    show (cfL (p * (foldC (q :: r)).1 + (foldC (q :: r)).2) (foldC (q :: r)).1).map (·.1) = p :: q :: r
    have e1 : (p * (foldC (q :: r)).1 + (foldC (q :: r)).2) / (foldC (q :: r)).1 = p := by
      rw [Int.add_comm, Int.add_mul_ediv_right _ _ (by omega), Int.ediv_eq_zero_of_lt (by omega) g.2]; simp
    have e2 : (p * (foldC (q :: r)).1 + (foldC (q :: r)).2) % (foldC (q :: r)).1 = (foldC (q :: r)).2 := by
      rw [Int.add_comm, Int.add_mul_emod_self_right, Int.emod_eq_of_lt (by omega) g.2]
    rw [cfL_eq (by omega), e1, e2, if_neg (by omega)]
    show p :: (cfL (foldC (q :: r)).1 (foldC (q :: r)).2).map (·.1) = _
    rw [cf_fold q (by
      cases r with
      | nil => exact .inl rfl
      | cons s t => exact .inr hg.2)]
def pairD (q : Int × Int) : D := .tup [.int q.1, .int q.2]
theorem cut_tail {α : Type} (x : α) (xs : List α) : cut (x :: xs) (some 1) none = xs := by
  have e : sIx (x :: xs).length 0 (some 1) = 1 := by simp [sIx]
  have e2 : sIx (x :: xs).length (x :: xs).length none = xs.length + 1 := by simp [sIx]
  unfold cut
  rw [e, e2]
  simp
theorem cut_init {α : Type} (xs : List α) : cut xs none (some (-1)) = xs.dropLast := by
  have e : sIx xs.length 0 none = 0 := by simp [sIx]
  have e2 : sIx xs.length xs.length (some (-1)) = xs.length - 1 := by simp [sIx]; omega
  unfold cut
  rw [e, e2, List.dropLast_eq_take]
  simp
theorem atI_last {xs : List Int} (h : xs ≠ []) : atI (xs.map D.int) (-1) = some (.int (xs.getLast h)) := by
  have hl : 0 < xs.length := List.length_pos_iff.mpr h
  unfold atI ixN
  rw [List.length_map, if_neg (by decide), if_pos (by omega)]
  show (xs.map D.int)[(-1 + (xs.length : Int)).toNat]? = _
  have e : (-1 + (xs.length : Int)).toNat = xs.length - 1 := by omega
  rw [e, List.getElem?_map, ← List.getLast?_eq_getElem?, List.getLast?_eq_some_getLast h]
  rfl
theorem cf_ok {K : Nat} (hK : 1 ≤ K) : ∀ (n : Nat) (a m : Int), m.toNat ≤ n → 0 < m → fits K a → fits K m →
    (∀ x ∈ (cfL a m).map (·.1), fits K x) ∧ ∀ k, fits K (foldC (((cfL a m).map (·.1)).drop k)).1
  | 0, a, m, h, hm, _, _ => by omega
  | n + 1, a, m, h, hm, fa, fm => by
    have r0 := Int.emod_nonneg a (show m ≠ 0 by omega)
    have r1 := Int.emod_lt_of_pos a hm
    have f1 : fits K 1 := by
      unfold fits
      exact Nat.lt_of_lt_of_le (show (1 : Int).natAbs < 2 ^ 1 by decide) (Nat.pow_le_pow_right (by decide) hK)
    have fq : fits K (a / m) := by rw [← Int.fdiv_eq_ediv_of_nonneg _ (by omega : 0 ≤ m)]; exact fa.fdiv hm
    have ft : fits K (foldC ((cfL a m).map (·.1))).1 := by
      rw [fold_cf (n + 1) a m h hm]
      show fits K (a / ((Int.gcd a m : Nat) : Int))
      have gp : 0 < Int.gcd a m := by
        rcases Nat.eq_zero_or_pos (Int.gcd a m) with q | q
        · have := (Int.gcd_eq_zero_iff.mp q).2; omega
        · exact q
      rw [← Int.fdiv_eq_ediv_of_nonneg _ (by omega : (0 : Int) ≤ (Int.gcd a m : Nat))]
      exact fa.fdiv (by omega)
    by_cases hr : a % m = 0
    · have e : (cfL a m).map (·.1) = [a / m] := by rw [cfL_eq hm, if_pos hr]; rfl
      refine ⟨fun x hx => ?_, fun k => ?_⟩
      · rw [e] at hx
        simp at hx
        rw [hx]; exact fq
      · cases k with
        | zero => exact ft
        | succ k =>
          rw [e]
          simp [foldC]
          exact f1
    · have ih := cf_ok hK n m (a % m) (by omega) (by omega) fm (fm.le (by omega))
      have e : (cfL a m).map (·.1) = a / m :: (cfL m (a % m)).map (·.1) := by rw [cfL_eq hm, if_neg hr]; rfl
      refine ⟨fun x hx => ?_, fun k => ?_⟩
      · rw [e] at hx
        rcases List.mem_cons.mp hx with hx | hx
        · rw [hx]; exact fq
        · exact ih.1 x hx
      · cases k with
        | zero => exact ft
        | succ k => rw [e]; exact ih.2 k
/-- from the second on the parts are from 1 on -/
theorem cf_pos : ∀ (n : Nat) (a m : Int), m.toNat ≤ n → 0 < m → ∃ (p : Int) (ps : List Int), (cfL a m).map (·.1) = p :: ps ∧ p = a / m ∧ ∀ x ∈ ps, 1 ≤ x
  | 0, a, m, h, hm => by omega
  | n + 1, a, m, h, hm => by
    have r0 := Int.emod_nonneg a (show m ≠ 0 by omega)
    have r1 := Int.emod_lt_of_pos a hm
    by_cases hr : a % m = 0
    · exact ⟨a / m, [], by rw [cfL_eq hm, if_pos hr]; rfl, rfl, by simp⟩
    · obtain ⟨p, ps, e1, e2, e3⟩ := cf_pos n m (a % m) (by omega) (by omega)
      refine ⟨a / m, p :: ps, by rw [cfL_eq hm, if_neg hr]; show a / m :: (cfL m (a % m)).map (·.1) = _; rw [e1], rfl, fun x hx => ?_⟩
      rcases List.mem_cons.mp hx with hx | hx
      · rw [hx, e2, Int.le_ediv_iff_mul_le (by omega)]; omega
      · exact e3 x hx
theorem foldC_small : ∀ (ps : List Int), (∀ x ∈ ps, x.natAbs < 2 ^ 27) → (foldC ps).1.natAbs < 2 ^ (28 * ps.length + 1) ∧ (foldC ps).2.natAbs < 2 ^ (28 * ps.length + 1)
  | [], _ => by simp [foldC]
  | p :: ps, h => by
    obtain ⟨h1, h2⟩ := foldC_small ps fun x hx => h x (List.mem_cons_of_mem _ hx)
    have hp := h p List.mem_cons_self
    have e : 2 ^ (28 * (p :: ps).length + 1) = 2 ^ 28 * 2 ^ (28 * ps.length + 1) := by
      rw [← Nat.pow_add]; congr 1; simp; omega
    rw [e]
    generalize 2 ^ (28 * ps.length + 1) = z at *
    have hpt : (p * (foldC ps).1).natAbs ≤ 2 ^ 27 * z := by
      rw [Int.natAbs_mul]
      exact Nat.mul_le_mul (Nat.le_of_lt hp) (Nat.le_of_lt h1)
    refine ⟨?_, ?_⟩
    · show (p * (foldC ps).1 + (foldC ps).2).natAbs < _
      omega
    · show (foldC ps).1.natAbs < _
      omega
theorem goodP_of : ∀ {ps : List Int}, (h : ps ≠ []) → (∀ x ∈ ps, 1 ≤ x) → 2 ≤ ps.getLast h → goodP ps
  | [p], _, _, h2 => h2
  | p :: q :: r, _, h1, h2 => ⟨h1 p List.mem_cons_self, goodP_of (ps := q :: r) (by simp) (fun x hx => h1 x (List.mem_cons_of_mem _ hx)) (by simpa using h2)⟩
@[simp] theorem eqbL_ints (xs : List Int) : D.eqbL (xs.map D.int) (xs.map D.int) = true := by
  induction xs with
  | nil => simp
  | cons x xs ih => simp [ih]
theorem atI_nat {α : Type} (xs : List α) (n : Nat) : atI xs (n : Int) = xs[n]? := by
  unfold atI ixN
  rw [if_pos (by omega)]
  by_cases h : n < xs.length
  · rw [if_pos (by omega)]; simp
  · rw [if_neg (by omega)]
    simp at h
    simp [List.getElem?_eq_none h]
theorem inR.get : ∀ {xs ws : List Int} {i : Nat} {w : Int}, inR xs ws → ws[i]? = some w → ∃ x, xs[i]? = some x ∧ 0 ≤ x ∧ x < w
  | [], [], i, w, _, h => by simp at h
  | x :: xs, v :: ws, 0, w, h, hw => by
    simp at hw
    subst hw
    exact ⟨x, rfl, h.1⟩
  | x :: xs, v :: ws, i + 1, w, h, hw => by
    obtain ⟨y, e, hy⟩ := inR.get h.2 (by simpa using hw)
    exact ⟨y, by simpa using e, hy⟩
/-- drawn parts -/
def drP (pl : List Int) : Prop := ∀ (j : Nat) (x : Int), pl[j]? = some x → 0 ≤ x ∧ x ≤ 10 ^ 8 ∧ (0 < j → 1 ≤ x)
theorem drP.snoc {pl : List Int} {v : Int} (h : drP pl) (h0 : 0 ≤ v) (h1 : v ≤ 10 ^ 8) (h2 : 0 < pl.length → 1 ≤ v) : drP (pl ++ [v]) := by
  intro j x hx
  by_cases hj : j < pl.length
  · rw [List.getElem?_append_left hj] at hx
    exact h j x hx
  · rw [List.getElem?_append_right (by omega)] at hx
    have : j - pl.length = 0 := by
      cases q : j - pl.length with
      | zero => rfl
      | succ k => rw [q] at hx; simp at hx
    rw [this] at hx
    simp at hx
    subst hx
    exact ⟨h0, h1, fun _ => h2 (by omega)⟩
def drQ (pl : List Int) : Prop := ∀ (j : Nat) (x : Int), pl[j]? = some x → x.natAbs ≤ 10 ^ 8 ∧ (0 < j → 1 ≤ x)
theorem drP.toQ {pl : List Int} (h : drP pl) : drQ pl := fun j x hx => by
  obtain ⟨a, b, c⟩ := h j x hx
  exact ⟨by omega, c⟩
theorem drQ.set0 {pl : List Int} {x : Int} (h : drQ pl) (hx : pl[0]? = some x) : drQ (pl.set 0 (-x)) := fun j y hy => by
  rw [List.getElem?_set] at hy
  split at hy
  · split at hy
    · simp at hy
      have := (h 0 x hx).1
      exact ⟨by omega, fun hj => by omega⟩
    · cases hy
  · exact h j y hy
/-- the list of parts with its last one raised -/
theorem drQ.last {p : Int} {ps : List Int} (h : drQ (p :: ps)) (hne : ps ≠ []) : goodP (ps.set (ps.length - 1) (ps.getLast hne + 1)) ∧ ∀ x ∈ ps.set (ps.length - 1) (ps.getLast hne + 1), x.natAbs ≤ 10 ^ 8 + 1 := by
  have hl : 0 < ps.length := List.length_pos_iff.mpr hne
  have ge : ∀ x ∈ ps, x.natAbs ≤ 10 ^ 8 ∧ 1 ≤ x := fun x hx => by
    obtain ⟨j, hj⟩ := List.getElem?_of_mem hx
    have := h (j + 1) x (by simpa using hj)
    exact ⟨this.1, this.2 (by omega)⟩
  have gl := ge _ (List.getLast_mem hne)
  have mem : ∀ x ∈ ps.set (ps.length - 1) (ps.getLast hne + 1), x.natAbs ≤ 10 ^ 8 + 1 ∧ 1 ≤ x := fun x hx => by
    rcases List.mem_or_eq_of_mem_set hx with hx | hx
    · have := ge x hx; exact ⟨by omega, this.2⟩
    · subst hx; exact ⟨by omega, by omega⟩
  have hne2 : ps.set (ps.length - 1) (ps.getLast hne + 1) ≠ [] := by
    intro z
    have := congrArg List.length z
    simp at this
    exact hne this
  refine ⟨goodP_of hne2 (fun x hx => (mem x hx).2) ?_, fun x hx => (mem x hx).1⟩
  rw [List.getLast_eq_getElem]
  simp
  omega
theorem foldC_big {K : Nat} : ∀ (ps : List Int), (∀ x ∈ ps, fits K x) → fits ((K + 1) * ps.length + 1) (foldC ps).1 ∧ fits ((K + 1) * ps.length + 1) (foldC ps).2
  | [], _ => ⟨by simp [foldC, fits], by simp [foldC, fits]⟩
  | p :: ps, h => by
    have h0 : p.natAbs < 2 ^ K := h p List.mem_cons_self
    obtain ⟨h1, h2⟩ := foldC_big ps fun x hx => h x (List.mem_cons_of_mem _ hx)
    have e : (K + 1) * (p :: ps).length + 1 = (K + 1) + ((K + 1) * ps.length + 1) := by rw [List.length_cons, Nat.mul_add]; omega
    rw [e]
    unfold fits at h1 h2 ⊢
    generalize (K + 1) * ps.length + 1 = n at *
    have hp : 0 < 2 ^ K := Nat.pow_pos (by decide)
    have e2 : 2 ^ (K + 1 + n) = 2 * (2 ^ K * 2 ^ n) := by rw [Nat.pow_add, Nat.pow_succ]; rw [Nat.mul_comm (2 ^ K) 2, Nat.mul_assoc]
    have h3 : 1 * 2 ^ n ≤ 2 ^ K * 2 ^ n := Nat.mul_le_mul_right _ hp
    rw [e2]
    constructor
    · show (p * (foldC ps).1 + (foldC ps).2).natAbs < _
      have h4 : (p * (foldC ps).1).natAbs ≤ 2 ^ K * (foldC ps).1.natAbs := by rw [Int.natAbs_mul]; exact Nat.mul_le_mul_right _ (by omega)
      have h5 : 2 ^ K * (foldC ps).1.natAbs + 2 ^ K ≤ 2 ^ K * 2 ^ n := by
        rw [← Nat.mul_succ]
        exact Nat.mul_le_mul_left _ h1
      omega
    · show (foldC ps).1.natAbs < _
      omega

/-- an error without fields -/
abbrev no (c : Str) : Out := .exn ⟨c, Str.empty, []⟩
theorem fmod_pos {a m : Int} (h : 0 < m) : a.fmod m = a % m := Int.fmod_eq_emod_of_nonneg _ (by omega)
theorem fdiv_pos {a m : Int} (h : 0 < m) : a.fdiv m = a / m := Int.fdiv_eq_ediv_of_nonneg _ (by omega)
theorem fits_nat {k : Nat} {x m : Int} (h : fits k m) (a : 0 ≤ x) (b : x ≤ m) : fits k x := h.le (by omega)
theorem fits_small {k : Nat} {x : Int} (h : x.natAbs < 2 ^ 9) (hk : 9 ≤ k) : fits k x := (show fits 9 x from h).mono hk
/-- far numbers -/
theorem fits60 {x : Int} (a : -(10 ^ 60) < x) (b : x < 10 ^ 60) : fits 200 x := fits_of (by omega)
theorem fits130 {x : Int} (a : -(10 ^ 130) < x) (b : x < 10 ^ 130) : fits 432 x := fits_of (by omega)
/-- as fits, put in a form that omega does not see into -/
theorem fits.small {k : Nat} {x y : Int} (h : fits k y) (a : -y.natAbs ≤ x) (b : x ≤ y.natAbs) : fits k x := h.le (by omega)
/-! ### a number turned over -/
structure TurnI (a m one two f s : Int) : Prop where
  o0 : 0 ≤ one
  ot : one < two
  tm : two ≤ m
  g : Int.gcd one two = Int.gcd a m
  c1 : m ∣ a * f - one
  c2 : m ∣ a * s - two
  b : (f.natAbs : Int) * two + s.natAbs * one ≤ m
  fm : (f.natAbs : Int) ≤ m
  sm : (s.natAbs : Int) ≤ m
theorem TurnI.start {a m : Int} (hm : 0 < m) : TurnI a m (a % m) m 1 0 := by
  refine ⟨Int.emod_nonneg _ (by omega), Int.emod_lt_of_pos _ hm, Int.le_refl _, ?_, ?_, ?_, ?_, ?_, ?_⟩
  · rw [← fmod_pos hm, Int.gcd_comm, gcd_fmod]
  · rw [Int.mul_one]; exact Int.dvd_self_sub_emod
  · rw [Int.mul_zero]; exact ⟨-1, by omega⟩
  · simp
  · simp; omega
  · simp; omega
theorem natAbs_sub_mul (s p f : Int) : ((s - p * f).natAbs : Int) ≤ s.natAbs + p.natAbs * f.natAbs := by
  have h1 : (s - p * f).natAbs ≤ s.natAbs + (p * f).natAbs := Int.natAbs_sub_le s (p * f)
  rw [Int.natAbs_mul] at h1
  have : ((p.natAbs * f.natAbs : Nat) : Int) = p.natAbs * f.natAbs := by simp
  omega
theorem TurnI.step {a m one two f s : Int} (h : TurnI a m one two f s) (hp : 0 < one) : TurnI a m (two % one) one (s - two / one * f) f := by
  obtain ⟨o0, ot, tm, g, c1, c2, b, fm, sm⟩ := h
  have e := Int.emod_add_mul_ediv two one
  have q0 : 0 ≤ two / one := Int.ediv_nonneg (by omega) o0
  have nb := natAbs_sub_mul s (two / one) f
  have eq : ((two / one).natAbs : Int) = two / one := by omega
  rw [eq] at nb
  generalize hq : two / one = q at *
  generalize hr : two % one = r at *
  have r0 : 0 ≤ r := hr ▸ Int.emod_nonneg _ (by omega)
  have r1 : r < one := hr ▸ Int.emod_lt_of_pos _ hp
  have key : ((s - q * f).natAbs : Int) * one + f.natAbs * r ≤ m := by
    have h1 : ((s - q * f).natAbs : Int) * one ≤ (s.natAbs + q * f.natAbs) * one := Int.mul_le_mul_of_nonneg_right nb (by omega)
    have h2 : (s.natAbs + q * f.natAbs) * one + f.natAbs * r = s.natAbs * one + f.natAbs * two := by
      rw [← e, Int.mul_add, Int.add_mul, ← Int.mul_assoc, Int.mul_comm (f.natAbs : Int) one, Int.mul_comm q (f.natAbs : Int), Int.mul_right_comm, Int.mul_comm one (f.natAbs : Int)]
      omega
    omega
  refine ⟨r0, r1, by omega, ?_, ?_, c1, key, ?_, fm⟩
  · rw [← g, Int.gcd_comm r one, ← hr, ← fmod_pos hp, gcd_fmod, Int.gcd_comm]
  · have : a * (s - q * f) - r = (a * s - two) - q * (a * f - one) := by
      rw [← e, Int.mul_sub, Int.mul_sub]
      have : a * (q * f) = q * (a * f) := by rw [← Int.mul_assoc, Int.mul_comm a q, Int.mul_assoc]
      rw [this, Int.mul_comm one q]
      omega
    rw [this]
    exact Int.dvd_sub c2 (Int.dvd_mul_of_dvd_right c1)
  · have h3 : 0 ≤ (f.natAbs : Int) * r := Int.mul_nonneg (by omega) r0
    have h4 : ((s - q * f).natAbs : Int) * 1 ≤ (s - q * f).natAbs * one := Int.mul_le_mul_of_nonneg_left (by omega) (by omega)
    omega
theorem TurnI.done {a m two f s : Int} (h : TurnI a m 0 two f s) : (Int.gcd a m : Int) = two ∧ (two = 1 → 0 ≤ s % m ∧ s % m < m ∧ m ∣ a * (s % m) - 1) := by
  obtain ⟨o0, ot, tm, g, c1, c2, b, fm, sm⟩ := h
  refine ⟨?_, fun e => ⟨Int.emod_nonneg _ (by omega), Int.emod_lt_of_pos _ (by omega), ?_⟩⟩
  · rw [← g, Int.gcd_zero_left]; omega
  · have e1 := Int.emod_add_mul_ediv s m
    have e2 : a * (s % m) - 1 = (a * s - two) - m * (a * (s / m)) := by
      have : a * s = a * (s % m) + m * (a * (s / m)) := by
        rw [Int.mul_left_comm, ← Int.mul_add, e1]
      omega
    rw [e2]
    exact Int.dvd_sub c2 (Int.dvd_mul_right _ _)
/-- rows: tuples of ints -/
def rowsOk (ds : List D) : Bool := ds.all fun d => match d with
  | .tup xs => (intsOf xs).isSome && decide (xs.length ≤ 1000)
  | _ => false
theorem rowsOk_mem {ds : List D} (h : rowsOk ds = true) {d : D} (hd : d ∈ ds) : ∃ xs : List Int, d = .tup (xs.map .int) ∧ xs.length ≤ 1000 := by
  have q := List.all_eq_true.mp h d hd
  cases d with
  | tup xs =>
    simp only [Bool.and_eq_true, decide_eq_true_eq] at q
    obtain ⟨z, hz⟩ := Option.isSome_iff_exists.mp q.1
    have e := intsOf_eq hz
    subst e
    exact ⟨z, rfl, by have := q.2; rw [List.length_map] at this; exact this⟩
  | _ => cases q
theorem zip_same {α β : Type} (f : α → α → β) : ∀ l : List α, List.zipWith f l l = l.map fun x => f x x
  | [] => rfl
  | x :: l => by simp [zip_same f l]
/-! ### comprehensions with a condition -/
theorem compL_filter {α : Type} {t : Tg} {C : En → (Bool → Prop) → Prop} {B : En → (R → Prop) → Prop} {f : Fl} {env : En} (φ ψ : α → D) (p : α → Bool) (hp : ∀ x, (ψ x).pure = true) : ∀ {xs : List α} {Q : Fl → List D → Prop},
    (∀ (x : α) (K : R → Prop) (K2 : Prop), x ∈ xs → (p x = true → K (.v .fro (ψ x))) → (p x = false → K2) → tgW t (.v f (φ x)) env fun e => C e fun b => if b = true then B e K else K2) →
    Q .fro ((xs.filter p).map ψ) → compL t C B f env (xs.map φ) Q
  | [], Q, _, h => h
  | x :: xs, Q, hs, h => by
    refine hs x _ _ List.mem_cons_self (fun hx => ?_) (fun hx => ?_)
    · refine compL_filter φ ψ p hp (fun y K K2 hy => hs y K K2 (List.mem_cons_of_mem _ hy)) ?_
      have e1 : (R.v .fro (ψ x)).fl = .fro := by show (if (ψ x).pure then Fl.fro else .fro) = .fro; simp
      rw [e1]
      rw [List.filter_cons_of_pos hx] at h
      exact h
    · refine compL_filter φ ψ p hp (fun y K K2 hy => hs y K K2 (List.mem_cons_of_mem _ hy)) ?_
      rw [List.filter_cons_of_neg (by simp [hx])] at h
      exact h
theorem compL_range_filter {t : Tg} {C : En → (Bool → Prop) → Prop} {B : En → (R → Prop) → Prop} {f : Fl} {env : En} {m n : Int} {Q : Fl → List D → Prop} (ψ : Nat → D) (p : Nat → Bool) (hp : ∀ x, (ψ x).pure = true)
    (hs : ∀ (i : Nat) (K : R → Prop) (K2 : Prop), m + i < n → (p i = true → K (.v .fro (ψ i))) → (p i = false → K2) → tgW t (.v f (.int (m + i))) env fun e => C e fun b => if b = true then B e K else K2)
    (h : Q .fro (((List.range (n - m).toNat).filter p).map ψ)) : compL t C B f env (rangeL m n) Q :=
  compL_filter (fun i : Nat => .int (m + i)) ψ p hp (fun i K K2 hi => hs i K K2 (by have := List.mem_range.mp hi; omega)) h

/-! ### sizes, found by instances -/
class Sz (k : outParam Nat) (x : Int) : Prop where
  h : fits k x
theorem fits.sz {k : Nat} {x : Int} (h : fits k x) : Sz k x := ⟨h⟩
def lg (n : Nat) : Nat := if n < 2 ^ 64 then 64 else if n < 2 ^ 512 then 512 else if n < 2 ^ 4096 then 4096 else n
@[simp] theorem lg_eq {n : Nat} : lg n = if n < 2 ^ 64 then 64 else if n < 2 ^ 512 then 512 else if n < 2 ^ 4096 then 4096 else n := rfl
theorem lt_lg {n : Nat} : n < 2 ^ lg n := by
  unfold lg
  split
  · assumption
  split
  · assumption
  split
  · assumption
  exact Nat.lt_two_pow_self
instance (priority := 1) Sz.any {x : Int} : Sz (lg x.natAbs) x := ⟨lt_lg⟩
instance Sz.neg {a : Nat} {x : Int} [i : Sz a x] : Sz a (-x) := ⟨i.h.neg⟩
theorem two_le_pow {a b : Nat} : 2 ^ a + 2 ^ b ≤ 2 ^ (a + b + 1) := by
  have h1 : 2 ^ a ≤ 2 ^ (a + b) := Nat.pow_le_pow_right (by decide) (by omega)
  have h2 : 2 ^ b ≤ 2 ^ (a + b) := Nat.pow_le_pow_right (by decide) (by omega)
  rw [Nat.pow_succ]; omega
instance Sz.add {a b : Nat} {x y : Int} [i : Sz a x] [j : Sz b y] : Sz (a + b + 1) (x + y) := ⟨by
  have h1 : x.natAbs < 2 ^ a := i.h
  have h2 : y.natAbs < 2 ^ b := j.h
  have h3 := @two_le_pow a b
  show (x + y).natAbs < _
  omega⟩
instance Sz.sub {a b : Nat} {x y : Int} [i : Sz a x] [j : Sz b y] : Sz (a + b + 1) (x - y) := ⟨by
  have h1 : x.natAbs < 2 ^ a := i.h
  have h2 : y.natAbs < 2 ^ b := j.h
  have h3 := @two_le_pow a b
  show (x - y).natAbs < _
  omega⟩
instance Sz.mul {a b : Nat} {x y : Int} [i : Sz a x] [j : Sz b y] : Sz (a + b) (x * y) := ⟨i.h.mul j.h⟩
theorem natAbs_ediv_le (x m : Int) : (x / m).natAbs ≤ x.natAbs := by
  have key : ∀ (x m : Int), 0 < m → (x / m).natAbs ≤ x.natAbs := by
    intro x m hm
    have h1 := Int.emod_add_mul_ediv x m
    have h2 := Int.emod_nonneg x (show m ≠ 0 by omega)
    have h3 := Int.emod_lt_of_pos x hm
    generalize x / m = q at *
    generalize x % m = r at *
    rcases Int.lt_trichotomy q 0 with h | h | h
    · have h4 : m * (q + 1) ≤ 1 * (q + 1) := by
        have : (m - 1) * (q + 1) ≤ 0 := Int.mul_nonpos_of_nonneg_of_nonpos (by omega) (by omega)
        rw [Int.sub_mul] at this; omega
      rw [Int.mul_add] at h4
      omega
    · subst h; simp
    · have h4 : 1 * q ≤ m * q := Int.mul_le_mul_of_nonneg_right (by omega) (by omega)
      omega
  rcases Int.lt_trichotomy m 0 with h | h | h
  · have := key x (-m) (by omega)
    rw [Int.ediv_neg] at this
    omega
  · subst h; simp
  · exact key x m h
theorem natAbs_emod_le (x m : Int) : (x % m).natAbs ≤ x.natAbs ∨ (x % m).natAbs < m.natAbs := by
  by_cases h : m = 0
  · subst h; simp
  · right
    have h2 := Int.emod_nonneg x h
    have h3 := Int.emod_lt x h
    omega
instance Sz.ediv {a : Nat} {x y : Int} [i : Sz a x] : Sz a (x / y) := ⟨i.h.le (natAbs_ediv_le x y)⟩
instance Sz.emod {a b : Nat} {x y : Int} [i : Sz a x] [j : Sz b y] : Sz (a + b + 1) (x % y) := ⟨by
  have h1 : x.natAbs < 2 ^ a := i.h
  have h2 : y.natAbs < 2 ^ b := j.h
  have h3 := @two_le_pow a b
  show (x % y).natAbs < _
  rcases natAbs_emod_le x y with h | h <;> omega⟩
theorem fdiv_cases (x y : Int) : x.fdiv y = x / y ∨ (y < 0 ∧ x.fdiv y = x / y - 1 ∧ ¬ y ∣ x) := by
  by_cases h : 0 ≤ y
  · exact .inl (Int.fdiv_eq_ediv_of_nonneg _ h)
  · have e := @Int.fdiv_eq_ediv x y
    by_cases hd : y ∣ x
    · left; rw [e, if_pos (.inr hd)]; omega
    · right
      refine ⟨by omega, ?_, hd⟩
      rw [e, if_neg (by rintro (h1 | h1) <;> contradiction)]
instance Sz.fdiv {a : Nat} {x y : Int} [i : Sz a x] : Sz (a + 1) (x.fdiv y) := ⟨by
  have h1 : x.natAbs < 2 ^ a := i.h
  have h2 := natAbs_ediv_le x y
  show (x.fdiv y).natAbs < 2 ^ (a + 1)
  rw [Nat.pow_succ]
  rcases fdiv_cases x y with h | ⟨_, h, _⟩ <;> rw [h] <;> omega⟩
instance Sz.fmod {a b : Nat} {x y : Int} [i : Sz a x] [j : Sz b y] : Sz (a + b + 1) (x.fmod y) := ⟨by
  have h1 : x.natAbs < 2 ^ a := i.h
  have h2 : y.natAbs < 2 ^ b := j.h
  have h3 := @two_le_pow a b
  show (x.fmod y).natAbs < _
  by_cases h : y = 0
  · subst h; rw [Int.fmod_zero]; omega
  · have := fmod_abs_lt (x := x) h
    omega⟩
instance Sz.gcd {a b : Nat} {x y : Int} [i : Sz a x] [j : Sz b y] : Sz (a + b + 1) ((Int.gcd x y : Nat) : Int) := ⟨by
  have h1 : x.natAbs < 2 ^ a := i.h
  have h2 : y.natAbs < 2 ^ b := j.h
  have h3 := @two_le_pow a b
  show (Int.ofNat (Int.gcd x y)).natAbs < _
  show Int.gcd x y < _
  by_cases h : x = 0
  · subst h; rw [Int.gcd_zero_left]; omega
  · have := Int.gcd_le_natAbs_left y h
    omega⟩
instance Sz.ite {c : Prop} [Decidable c] {a b : Nat} {x y : Int} [i : Sz a x] [j : Sz b y] : Sz (a + b + 1) (if c then x else y) := ⟨by
  have h1 : x.natAbs < 2 ^ a := i.h
  have h2 : y.natAbs < 2 ^ b := j.h
  have h3 := @two_le_pow a b
  split
  · show x.natAbs < _; omega
  · show y.natAbs < _; omega⟩
instance Sz.pow {a n : Nat} {x : Int} [i : Sz a x] : Sz (a * n + 1) (x ^ n) := ⟨by
  show (x ^ n).natAbs < _
  rw [Int.natAbs_pow]
  have h1 : x.natAbs ≤ 2 ^ a := Nat.le_of_lt i.h
  have h2 : x.natAbs ^ n ≤ (2 ^ a) ^ n := Nat.pow_le_pow_left h1 n
  rw [← Nat.pow_mul] at h2
  rw [Nat.pow_succ]
  have : 0 < 2 ^ (a * n) := Nat.pow_pos (by decide)
  omega⟩
theorem Sz.fits {k l : Nat} {x : Int} [i : Sz k x] (h : k ≤ l) : fits l x := i.h.mono h
@[simp] theorem fits_sz {k l : Nat} {x : Int} [i : Sz k x] (h : k ≤ l) : Dv.fits l x ↔ True := iff_true_intro (i.h.mono h)
@[simp] theorem mulOk_sz {a b : Nat} {x y : Int} [i : Sz a x] [j : Sz b y] (h : a + b ≤ 900000) : mulOk x y ↔ True :=
  iff_true_intro ((i.h.mono (Nat.le_succ a)).mulOk (j.h.mono (Nat.le_succ b)) (Nat.succ_pos a) (Nat.succ_pos b) (by omega))
theorem mulOk_szl {a : Nat} {x y : Int} [i : Sz a x] (h : a ≤ 64) : mulOk x y := mulOk_l
  (by have h1 : x.natAbs < 2 ^ a := i.h; have h2 : 2 ^ a ≤ 2 ^ 64 := Nat.pow_le_pow_right (by decide) h; have h3 : (2 : Nat) ^ 64 = 18446744073709551616 := by decide +kernel
      have h4 : (2 : Int) ^ 64 = 18446744073709551616 := by decide +kernel
      omega)
  (by have h1 : x.natAbs < 2 ^ a := i.h; have h2 : 2 ^ a ≤ 2 ^ 64 := Nat.pow_le_pow_right (by decide) h; have h3 : (2 : Nat) ^ 64 = 18446744073709551616 := by decide +kernel
      have h4 : (2 : Int) ^ 64 = 18446744073709551616 := by decide +kernel
      omega)
@[simp] theorem divOk_sz {a : Nat} {x : Int} [i : Sz a x] (h : a ≤ 8999) : divOk x ↔ x ≠ 0 :=
  ⟨fun z => z.1, fun z => (i.h.mono (Nat.le_succ a)).divOk z (Nat.succ_pos a) (by omega)⟩
/-- numbers of the draws -/
theorem sz60 {x : Int} (a : -(10 ^ 60) < x) (b : x < 10 ^ 60) : Sz 200 x := ⟨fits_of (by omega)⟩
theorem sz130 {x : Int} (a : -(10 ^ 130) < x) (b : x < 10 ^ 130) : Sz 432 x := ⟨fits_of (by omega)⟩
theorem szs {x : Int} (a : -(10 ^ 9) < x) (b : x < 10 ^ 9) : Sz 30 x := ⟨fits_of (by omega)⟩
theorem Sz.of_le {k : Nat} {x y : Int} [i : Sz k y] (h : x.natAbs ≤ y.natAbs) : Sz k x := ⟨i.h.le h⟩
theorem Sz.of_nn {k : Nat} {x y : Int} [i : Sz k y] (h0 : 0 ≤ x) (h : x ≤ y) : Sz k x := ⟨i.h.le (by omega)⟩
/-! ### draws -/
def wOk (w : List Int) : Bool := w.all fun x => decide (0 < x) && decide (x < lim600)
theorem wOk_mem {w : List Int} (h : wOk w = true) {x : Int} (hx : x ∈ w) : 0 < x ∧ x < lim600 := by
  have := List.all_eq_true.mp h x hx
  simpa using this
@[simp] theorem wOk_nil : wOk [] = true := rfl
@[simp] theorem wOk_cons {x : Int} {w : List Int} : wOk (x :: w) = (decide (0 < x) && (decide (x < lim600) && wOk w)) := by simp [wOk, Bool.and_assoc]
theorem inR_nil_iff {xs : List Int} : inR xs [] ↔ xs = [] := by cases xs <;> simp [inR]
theorem inR_cons_iff {xs ws : List Int} {w : Int} : inR xs (w :: ws) ↔ ∃ x r, xs = x :: r ∧ (0 ≤ x ∧ x < w) ∧ inR r ws := by
  cases xs with
  | nil => simp [inR]
  | cons x r =>
    constructor
    · intro h; exact ⟨x, r, rfl, h⟩
    · rintro ⟨_, _, e, h⟩; cases e; exact h
/-- for all draws by these widths -/
def allR : List Int → (List Int → Prop) → Prop
  | [], K => K []
  | w :: ws, K => ∀ x, 0 ≤ x → x < w → allR ws fun r => K (x :: r)
theorem allR_nil {K : List Int → Prop} : allR [] K = K [] := rfl
theorem allR_cons {w : Int} {ws : List Int} {K : List Int → Prop} : allR (w :: ws) K = ∀ x, 0 ≤ x → x < w → allR ws fun r => K (x :: r) := rfl
theorem allR_of : ∀ {ws : List Int} {K : List Int → Prop}, (∀ xs, inR xs ws → K xs) → allR ws K
  | [], K, h => h [] trivial
  | w :: ws, K, h => fun x x0 x1 => allR_of fun r hr => h (x :: r) ⟨⟨x0, x1⟩, hr⟩
theorem allR.to : ∀ {ws : List Int} {K : List Int → Prop} {xs : List Int}, allR ws K → inR xs ws → K xs
  | [], K, [], h, _ => h
  | [], K, _ :: _, h, q => q.elim
  | w :: ws, K, [], h, q => q.elim
  | w :: ws, K, x :: r, h, q => (h x q.1.1 q.1.2).to q.2
@[simp] theorem lt_lim_true {x : Int} (h : x ≤ 10 ^ 150) : x < lim600 ↔ True := iff_true_intro (lt_lim h)
theorem sz60p {x : Int} (a : 0 < x) (b : x < 10 ^ 60) : Sz 200 x := ⟨fits_of (by omega)⟩
theorem sz130p {x : Int} (a : 0 < x) (b : x < 10 ^ 130) : Sz 432 x := ⟨fits_of (by omega)⟩
theorem Sz.up {k l : Nat} {x : Int} [i : Sz k x] (h : k ≤ l) : Sz l x := ⟨i.h.mono h⟩
@[simp] theorem mulOk_left {a : Nat} {x y : Int} [i : Sz a x] (h : a ≤ 64) : mulOk x y ↔ True := iff_true_intro (mulOk_szl h)
@[simp] theorem mulOk_right {a : Nat} {x y : Int} [i : Sz a y] (h : a ≤ 64) : mulOk x y ↔ True := iff_true_intro (by
  have z : mulOk y x := mulOk_szl h
  rcases z with z | z | z
  · exact .inr (.inl z)
  · exact .inl z
  · exact .inr (.inr (by omega)))

/-! ### powers by a number -/
def pw (a : Int) (n : Nat) (m : Int) : Int := a ^ n % m
theorem pw_nn {a : Int} {n : Nat} {m : Int} (h : 0 < m) : 0 ≤ pw a n m ∧ pw a n m < m := ⟨Int.emod_nonneg _ (by omega), Int.emod_lt_of_pos _ h⟩
theorem pw_add {a : Int} {n k : Nat} {m : Int} : pw a (n + k) m = pw a n m * pw a k m % m := by
  unfold pw
  rw [Int.pow_add, Int.mul_emod]
theorem pw_zero {a m : Int} : pw a 0 m = 1 % m := by unfold pw; rw [Int.pow_zero]
theorem pw_one {a m : Int} : pw a 1 m = a % m := by unfold pw; rw [Int.pow_succ, Int.pow_zero, Int.one_mul]
theorem pw_emod {a m : Int} {n : Nat} : pw (a % m) n m = pw a n m := by
  induction n with
  | zero => rw [pw_zero, pw_zero]
  | succ n ih => rw [pw_add, pw_add, ih, pw_one, pw_one, Int.emod_emod]
theorem pw_mul {a m : Int} {n k : Nat} : pw (pw a n m) k m = pw a (n * k) m := by
  have : pw (pw a n m) k m = pw (a ^ n) k m := by unfold pw; exact pw_emod (a := a ^ n)
  rw [this]
  unfold pw
  rw [Int.pow_mul]
theorem emod_mul_e (a b m : Int) : a % m * b % m = a * b % m := by rw [Int.mul_emod, Int.emod_emod, ← Int.mul_emod]
theorem mul_emod_e (a b m : Int) : a * (b % m) % m = a * b % m := by rw [Int.mul_emod, Int.emod_emod, ← Int.mul_emod]
/-- the loop of squares -/
structure PwI (a : Int) (K : Nat) (m f s : Int) (k : Nat) : Prop where
  f0 : 0 ≤ f
  f1 : f < m
  s0 : 0 ≤ s
  s1 : s < m
  e : f * s ^ k % m = pw a K m
theorem PwI.start {a m : Int} {K : Nat} (h : 0 < m) : PwI a K m (1 % m) (a % m) K := by
  refine ⟨Int.emod_nonneg _ (by omega), Int.emod_lt_of_pos _ h, Int.emod_nonneg _ (by omega), Int.emod_lt_of_pos _ h, ?_⟩
  rw [emod_mul_e, Int.one_mul]
  exact pw_emod
theorem sq_half {s m : Int} {k : Nat} (f : Int) : f * (s * s % m) ^ (k / 2) % m = f * (s ^ (2 * (k / 2))) % m := by
  have : (s * s % m) ^ (k / 2) % m = (s * s) ^ (k / 2) % m := pw_emod
  rw [Int.mul_emod, this, ← Int.mul_emod, Int.pow_mul]
  have e : s ^ 2 = s * s := by rw [Int.pow_succ, Int.pow_succ, Int.pow_zero, Int.one_mul]
  rw [e]
theorem PwI.odd {a m f s : Int} {K k : Nat} (h : PwI a K m f s k) (hk : k % 2 = 1) : PwI a K m (f * s % m) (s * s % m) (k / 2) := by
  have hm : 0 < m := by have := h.f0; have := h.f1; omega
  refine ⟨Int.emod_nonneg _ (by omega), Int.emod_lt_of_pos _ hm, Int.emod_nonneg _ (by omega), Int.emod_lt_of_pos _ hm, ?_⟩
  rw [sq_half, emod_mul_e, ← h.e, Int.mul_assoc]
  have : k = 1 + 2 * (k / 2) := by omega
  have e : s * s ^ (2 * (k / 2)) = s ^ k := by
    conv => rhs; rw [this, Int.pow_add, Int.pow_succ, Int.pow_zero, Int.one_mul]
  rw [e]
theorem PwI.even {a m f s : Int} {K k : Nat} (h : PwI a K m f s k) (hk : k % 2 = 0) : PwI a K m f (s * s % m) (k / 2) := by
  have hm : 0 < m := by have := h.f0; have := h.f1; omega
  refine ⟨h.f0, h.f1, Int.emod_nonneg _ (by omega), Int.emod_lt_of_pos _ hm, ?_⟩
  rw [sq_half, ← h.e]
  have : 2 * (k / 2) = k := by omega
  rw [this]
theorem PwI.done {a m f s : Int} {K : Nat} (h : PwI a K m f s 0) : f = pw a K m := by
  rw [← h.e, Int.pow_zero, Int.mul_one, Int.emod_eq_of_lt h.f0 h.f1]
/-- binary places, the least first; the greatest first -/
def valL : List Int → Int
  | [] => 0
  | b :: r => b + 2 * valL r
theorem valL_snoc : ∀ (l : List Int) (b : Int), valL (l ++ [b]) = valL l + 2 ^ l.length * b
  | [], b => by simp [valL]
  | x :: l, b => by
    show x + 2 * valL (l ++ [b]) = x + 2 * valL l + 2 ^ (l.length + 1) * b
    rw [valL_snoc l b, Int.pow_succ, Int.mul_add, Int.mul_comm ((2 : Int) ^ l.length) 2, Int.mul_assoc]
    omega
def valM (l : List Int) : Int := valL l.reverse
theorem valM_snoc (l : List Int) (b : Int) : valM (l ++ [b]) = b + 2 * valM l := by
  unfold valM
  rw [List.reverse_append]
  rfl
theorem valL_nn : ∀ {l : List Int}, (∀ b ∈ l, b = 0 ∨ b = 1) → 0 ≤ valL l
  | [], _ => Int.le_refl _
  | b :: l, h => by
    have h1 := valL_nn (l := l) fun b hb => h b (List.mem_cons_of_mem _ hb)
    have h2 := h b List.mem_cons_self
    show 0 ≤ b + 2 * valL l
    omega
theorem pw_sz {a m : Int} {n k : Nat} [Sz k m] (h : 0 < m) : Sz k (pw a n m) := .of_nn (pw_nn h).1 (Int.le_of_lt (pw_nn h).2)

/-! ### how many steps there are -/
def lamF : Nat → Nat
  | 0 => 1
  | 1 => 1
  | n + 2 => lamF (n + 1) + lamF n
theorem cf_fib : ∀ (n : Nat) (a m : Int), m.toNat ≤ n → 0 < m → (lamF (cfL a m).length : Int) ≤ m
  | 0, a, m, h, hm => by omega
  | n + 1, a, m, h, hm => by
    have r0 := Int.emod_nonneg a (show m ≠ 0 by omega)
    have r1 := Int.emod_lt_of_pos a hm
    rw [cfL_eq hm]
    split
    · show ((1 : Nat) : Int) ≤ m
      omega
    · rename_i hr
      have ih := cf_fib n m (a % m) (by omega) (by omega)
      generalize a % m = r at *
      have hr0 : 0 < r := by omega
      have s0 := Int.emod_nonneg m (show r ≠ 0 by omega)
      have s1 := Int.emod_lt_of_pos m hr0
      have em := Int.emod_add_mul_ediv m r
      have q1 : 1 ≤ m / r := by
        rw [Int.le_ediv_iff_mul_le hr0]
        omega
      have q2 : r * 1 ≤ r * (m / r) := Int.mul_le_mul_of_nonneg_left q1 (by omega)
      rw [cfL_eq hr0] at ih ⊢
      split at ih
      · rename_i hs
        rw [if_pos hs]
        show ((2 : Nat) : Int) ≤ m
        omega
      · rename_i hs
        rw [if_neg hs]
        have ih2 := cf_fib n r (m % r) (by omega) (by omega)
        simp only [List.length_cons] at ih ⊢
        generalize (cfL r (m % r)).length = l at *
        have : lamF (l + 1 + 1) = lamF (l + 1) + lamF l := rfl
        omega
theorem lamF_le : ∀ n : Nat, lamF (n + 1) ≤ 2 * lamF n ∧ 0 < lamF n ∧ lamF n ≤ lamF (n + 1)
  | 0 => by decide
  | n + 1 => by
    have := lamF_le n
    have e : lamF (n + 1 + 1) = lamF (n + 1) + lamF n := rfl
    omega
theorem lamF_mono {n k : Nat} (h : n ≤ k) : lamF n ≤ lamF k := by
  induction h with
  | refl => exact Nat.le_refl _
  | step _ ih => exact Nat.le_trans ih (lamF_le _).2.2
theorem lamF_ten (k : Nat) : 10 * lamF (k + 1) ≤ lamF (k + 6) := by
  have h1 := lamF_le k
  have e2 : lamF (k + 2) = lamF (k + 1) + lamF k := rfl
  have e3 : lamF (k + 3) = lamF (k + 2) + lamF (k + 1) := rfl
  have e4 : lamF (k + 4) = lamF (k + 3) + lamF (k + 2) := rfl
  have e5 : lamF (k + 5) = lamF (k + 4) + lamF (k + 3) := rfl
  have e6 : lamF (k + 6) = lamF (k + 5) + lamF (k + 4) := rfl
  omega
theorem lamF_pow : ∀ d : Nat, 3 * 10 ^ d ≤ lamF (5 * d + 3)
  | 0 => by decide
  | d + 1 => by
    have h1 := lamF_pow d
    have h2 := lamF_ten (5 * d + 2)
    have e : 5 * (d + 1) + 3 = 5 * d + 2 + 6 := by omega
    rw [e, Nat.pow_succ]
    have e2 : 5 * d + 2 + 1 = 5 * d + 3 := by omega
    rw [e2] at h2
    omega
theorem lame {a m : Int} {d : Nat} (hm : 0 < m) (h : m < 10 ^ d) : (cfL a m).length ≤ 5 * d + 2 := by
  rcases Nat.lt_or_ge (5 * d + 2) (cfL a m).length with q | q
  · exfalso
    have h1 := cf_fib m.toNat a m (Nat.le_refl _) hm
    have h2 := lamF_mono (show 5 * d + 3 ≤ (cfL a m).length by omega)
    have h3 := lamF_pow d
    have h4 : ((10 ^ d : Nat) : Int) = 10 ^ d := by rw [Int.natCast_pow]; rfl
    have h5 : ((3 * 10 ^ d : Nat) : Int) ≤ m := by omega
    have h6 : ((3 * 10 ^ d : Nat) : Int) = 3 * 10 ^ d := by rw [Int.natCast_mul, h4]; rfl
    have h7 : (0 : Int) < 10 ^ d := Int.pow_pos (by decide)
    omega
  · exact q

/-! ### the rests of a k by m -/
def rests (a m : Int) : List Int := (List.range m.toNat).map fun (k : Nat) => a * (k : Int) % m
theorem rests_len (a m : Int) : (rests a m).length = m.toNat := by simp [rests]

/-! ### the rows of a sum -/
def moreOf (n m a b : Int) : Int := (n * (n - 1)).fdiv 2 * (a / m) + n * (b / m)
def srows (n m a b : Int) : List (Int × Int × Int × Int × Int) :=
  (n, m, a, b, moreOf n m a b) :: (if h : 0 < m ∧ 0 < a % m ∧ m ≤ a % m * n + b % m then srows ((a % m * n + b % m) / m) (a % m) m ((a % m * n + b % m) % m) else [])
termination_by m.toNat
decreasing_by
  have := Int.emod_lt_of_pos a h.1
  omega
theorem srows_eq {n m a b : Int} (hm : 0 < m) (hn : 0 ≤ n) : srows n m a b = (n, m, a, b, moreOf n m a b) :: (if m ≤ a % m * n + b % m then srows ((a % m * n + b % m) / m) (a % m) m ((a % m * n + b % m) % m) else []) := by
  rw [srows]
  congr 1
  by_cases h : m ≤ a % m * n + b % m
  · rw [if_pos h]
    have ha : 0 < a % m := by
      have := Int.emod_nonneg a (show m ≠ 0 by omega)
      rcases Int.lt_or_eq_of_le this with q | q
      · exact q
      · exfalso
        rw [← q, Int.zero_mul] at h
        have := Int.emod_lt_of_pos b hm
        omega
    rw [dif_pos ⟨hm, ha, h⟩]
  · rw [if_neg h, dif_neg (fun z => h z.2.2)]
theorem srows_sum : ∀ (k : Nat) (n m a b : Int), m.toNat ≤ k → 0 < m → 0 ≤ n → ((srows n m a b).map fun q => q.2.2.2.2).sum = flo n.toNat m a b
  | 0, n, m, a, b, h, hm, hn => by omega
  | k + 1, n, m, a, b, h, hm, hn => by
    have a0 := Int.emod_nonneg a (show m ≠ 0 by omega)
    have a1 := Int.emod_lt_of_pos a hm
    have b0 := Int.emod_nonneg b (show m ≠ 0 by omega)
    have b1 := Int.emod_lt_of_pos b hm
    obtain ⟨N, rfl⟩ := Int.eq_ofNat_of_zero_le hn
    have hsplit := flo_split hm N a b
    have hturn := flo_turn hm a0 a1 b0 b1 N
    have hmore : moreOf N m a b = sumN (fun k => (k : Int)) N * (a / m) + N * (b / m) := by unfold moreOf; rw [tri_eq]
    rw [srows_eq hm hn, List.map_cons, List.sum_cons]
    show moreOf N m a b + _ = flo N m a b
    rw [hsplit, hmore]
    congr 1
    split
    · rename_i hc
      have la : 0 < a % m := by
        rcases Int.lt_or_eq_of_le a0 with q | q
        · exact q
        · exfalso
          rw [← q, Int.zero_mul] at hc
          omega
      have q0 : 0 ≤ a % m * (N : Int) + b % m := by omega
      rw [srows_sum k _ _ _ _ (by omega) la (Int.ediv_nonneg q0 (by omega)), hturn]
    · rename_i hc
      have q0 : 0 ≤ a % m * (N : Int) + b % m := by have := Int.mul_nonneg a0 hn; omega
      have z : ((a % m * (N : Int) + b % m) / m).toNat = 0 := by rw [Int.ediv_eq_zero_of_lt q0 (by omega)]; rfl
      rw [hturn, z]
      rfl
theorem srows_len : ∀ (k : Nat) (n m a b : Int), m.toNat ≤ k → 0 < m → 0 ≤ n → (srows n m a b).length ≤ (cfL a m).length
  | 0, n, m, a, b, h, hm, hn => by omega
  | k + 1, n, m, a, b, h, hm, hn => by
    have a0 := Int.emod_nonneg a (show m ≠ 0 by omega)
    have a1 := Int.emod_lt_of_pos a hm
    have b1 := Int.emod_lt_of_pos b hm
    have b0 := Int.emod_nonneg b (show m ≠ 0 by omega)
    rw [srows_eq hm hn, cfL_eq hm, List.length_cons, List.length_cons]
    split
    · rename_i hc
      have la : ¬ a % m = 0 := by
        intro q
        rw [q, Int.zero_mul] at hc
        omega
      have q0 : 0 ≤ a % m * n + b % m := by have := Int.mul_nonneg a0 hn; omega
      rw [if_neg la]
      have := srows_len k ((a % m * n + b % m) / m) (a % m) m ((a % m * n + b % m) % m) (by omega) (by omega) (Int.ediv_nonneg q0 (by omega))
      omega
    · simp
theorem lamF_two : ∀ k : Nat, 2 ^ k ≤ lamF (2 * k)
  | 0 => by decide
  | k + 1 => by
    have h1 := lamF_two k
    have h2 := lamF_le (2 * k)
    have e : lamF (2 * (k + 1)) = lamF (2 * k + 1) + lamF (2 * k) := rfl
    rw [Nat.pow_succ]
    omega
theorem cf_len {a m : Int} {k : Nat} (hm : 0 < m) (h : fits k m) : (cfL a m).length ≤ 2 * k + 1 := by
  rcases Nat.lt_or_ge (2 * k + 1) (cfL a m).length with q | q
  · exfalso
    have h1 := cf_fib m.toNat a m (Nat.le_refl _) hm
    have h2 := lamF_mono (show 2 * k ≤ (cfL a m).length by omega)
    have h3 := lamF_two k
    have h4 : m.natAbs < 2 ^ k := h
    omega
  · exact q
def rowD (q : Int × Int × Int × Int × Int) : D := .tup [.int q.1, .int q.2.1, .int q.2.2.1, .int q.2.2.2.1, .int q.2.2.2.2]
structure SumI (T : List (Int × Int × Int × Int × Int)) (n m a b : Int) (qs : List (Int × Int × Int × Int × Int)) : Prop where
  n0 : 0 ≤ n
  m0 : 0 < m
  fn : fits 2000 n
  fm : fits 2000 m
  fa : fits 2000 a
  fb : fits 2000 b
  eq : qs ++ srows n m a b = T

/-! ### points under a line -/
theorem sumN_swap (f : Nat → Nat → Int) (n : Nat) : ∀ m : Nat, sumN (fun i => sumN (fun j => f i j) m) n = sumN (fun j => sumN (fun i => f i j) n) m
  | 0 => by
    show sumN (fun _ => 0) n = 0
    rw [sumN_const]; simp
  | m + 1 => by
    show sumN (fun i => sumN (fun j => f i j) m + f i m) n = sumN (fun j => sumN (fun i => f i j) n) m + sumN (fun i => f i m) n
    rw [sumN_add, sumN_swap f n m]
theorem sumN_sub (f g : Nat → Int) (n : Nat) : sumN (fun k => f k - g k) n = sumN f n - sumN g n := by
  have h := sumN_add (fun k => f k - g k) g n
  have : (fun k => f k - g k + g k) = f := by funext k; omega
  simp only [this] at h
  omega
def ind (p : Prop) [Decidable p] : Int := if p then 1 else 0
theorem ind_sum {v : Int} {m : Int} (hm : 0 < m) (hv : 0 ≤ v) : ∀ {A : Nat}, sumN (fun j => ind (m * ((j : Int) + 1) ≤ v)) A = if v / m ≤ A then v / m else A
  | 0 => by
    have := Int.ediv_nonneg hv (show 0 ≤ m by omega)
    show (0 : Int) = _
    split <;> omega
  | A + 1 => by
    show sumN _ A + ind (m * ((A : Int) + 1) ≤ v) = _
    rw [ind_sum hm hv]
    have e : m * ((A : Int) + 1) ≤ v ↔ (A : Int) + 1 ≤ v / m := by
      rw [Int.mul_comm, Int.le_ediv_iff_mul_le hm]
    unfold ind
    rw [show (if m * ((A : Int) + 1) ≤ v then (1 : Int) else 0) = if (A : Int) + 1 ≤ v / m then 1 else 0 by simp only [e]]
    split <;> split <;> split <;> omega
/-- the floors from k = 1 to M -/
def pts (a m : Int) (M : Nat) : Int := sumN (fun k => a * ((k : Int) + 1) / m) M
theorem flo_pts (a m : Int) (M : Nat) : flo (M + 1) m a 0 = pts a m M := by
  unfold flo pts
  rw [sumN_front]
  simp
theorem pts_pair {a m : Int} {A M : Nat} (ha : a = 2 * A + 1) (hm : m = 2 * M + 1) : pts a m M + pts m a A = A * M + sumN (fun k => ind (m ∣ a * ((k : Int) + 1))) M := by
  have a0 : 0 < a := by omega
  have m0 : 0 < m := by omega
  have key : ∀ {a m : Int} {A M : Nat}, a = 2 * A + 1 → m = 2 * M + 1 → pts a m M = sumN (fun k => sumN (fun j => ind (m * ((j : Int) + 1) ≤ a * ((k : Int) + 1))) A) M := by
    intro a m A M ha hm
    unfold pts
    refine sumN_congr fun k hk => ?_
    have h0 : 0 ≤ a * ((k : Int) + 1) := Int.mul_nonneg (by omega) (by omega)
    rw [ind_sum (by omega) h0, if_pos]
    have : a * ((k : Int) + 1) < m * ((A : Int) + 1) := by
      have : a * ((k : Int) + 1) ≤ a * M := Int.mul_le_mul_of_nonneg_left (by omega) (by omega)
      have e1 : a * (M : Int) = 2 * ((A : Int) * M) + M := by rw [ha, Int.add_mul, Int.mul_assoc]; omega
      have e2 : m * ((A : Int) + 1) = 2 * ((A : Int) * M) + 2 * M + A + 1 := by rw [hm, Int.add_mul, Int.mul_add, Int.mul_comm (A : Int), ← Int.mul_assoc]; omega
      omega
    have := (Int.ediv_lt_iff_lt_mul (show 0 < m by omega)).mpr (show a * ((k : Int) + 1) < ((A : Int) + 1) * m by rw [Int.mul_comm ((A : Int) + 1)]; exact this)
    omega
  rw [key ha hm, key hm ha, sumN_swap (fun i j => ind (a * ((j : Int) + 1) ≤ m * ((i : Int) + 1))), ← sumN_add]
  have e : (A : Int) * M + sumN (fun k => ind (m ∣ a * ((k : Int) + 1))) M = sumN (fun k => (A : Int) + ind (m ∣ a * ((k : Int) + 1))) M := by
    rw [sumN_add, sumN_const]
  rw [e]
  refine sumN_congr fun k hk => ?_
  rw [← sumN_add]
  have h1 : ∀ j : Nat, ind (m * ((j : Int) + 1) ≤ a * ((k : Int) + 1)) + ind (a * ((k : Int) + 1) ≤ m * ((j : Int) + 1)) = 1 + ind (m * ((j : Int) + 1) = a * ((k : Int) + 1)) := by
    intro j
    unfold ind
    split <;> split <;> split <;> omega
  rw [sumN_congr fun j _ => h1 j, sumN_add, sumN_const, Int.one_mul]
  congr 1
  -- at most one j
  have bound : a * ((k : Int) + 1) < m * ((A : Int) + 1) := by
    have : a * ((k : Int) + 1) ≤ a * M := Int.mul_le_mul_of_nonneg_left (by omega) (by omega)
    have e1 : a * (M : Int) = 2 * ((A : Int) * M) + M := by rw [ha, Int.add_mul, Int.mul_assoc]; omega
    have e2 : m * ((A : Int) + 1) = 2 * ((A : Int) * M) + 2 * M + A + 1 := by rw [hm, Int.add_mul, Int.mul_add, Int.mul_comm (A : Int), ← Int.mul_assoc]; omega
    omega
  have pos : 0 < a * ((k : Int) + 1) := Int.mul_pos a0 (by omega)
  generalize a * ((k : Int) + 1) = v at *
  have one : ∀ B : Nat, sumN (fun j => ind (m * ((j : Int) + 1) = v)) B = ind (m ∣ v ∧ v ≤ m * B) := by
    intro B
    induction B with
    | zero =>
      show (0 : Int) = _
      unfold ind
      rw [if_neg]
      intro z
      have := z.2
      simp at this
      omega
    | succ B ih =>
      show sumN _ B + ind (m * ((B : Int) + 1) = v) = _
      rw [ih]
      have e1 : m * ((B : Int) + 1) = m * B + m := by rw [Int.mul_add, Int.mul_one]
      have e2 : ((B + 1 : Nat) : Int) = (B : Int) + 1 := rfl
      unfold ind
      rw [e2]
      by_cases hd : m ∣ v
      · obtain ⟨w, rfl⟩ := hd
        have c1 : m * w ≤ m * B ↔ w ≤ B := ⟨fun h => Int.le_of_mul_le_mul_left h m0, fun h => Int.mul_le_mul_of_nonneg_left h (by omega)⟩
        have c2 : m * w ≤ m * ((B : Int) + 1) ↔ w ≤ B + 1 := ⟨fun h => Int.le_of_mul_le_mul_left h m0, fun h => Int.mul_le_mul_of_nonneg_left h (by omega)⟩
        have c3 : m * ((B : Int) + 1) = m * w ↔ (B : Int) + 1 = w := ⟨fun h => Int.eq_of_mul_eq_mul_left (by omega) h, fun h => by rw [h]⟩
        simp only [c1, c2, c3, Int.dvd_mul_right, true_and]
        split <;> split <;> split <;> omega
      · have c3 : ¬ m * ((B : Int) + 1) = v := fun h => hd ⟨_, h.symm⟩
        simp [hd, c3]
  rw [one]
  unfold ind
  by_cases hd : m ∣ v
  · have : v ≤ m * (A : Int) := by
      obtain ⟨w, rfl⟩ := hd
      have : w < (A : Int) + 1 := Int.lt_of_mul_lt_mul_left bound (by omega)
      exact Int.mul_le_mul_of_nonneg_left (by omega) (by omega)
    rw [if_pos ⟨hd, this⟩, if_pos hd]
  · rw [if_neg fun z => hd z.1, if_neg hd]
theorem dvd_succ {d : Int} (hd : 0 < d) (M : Int) : (M + 1) / d = M / d + ind (d ∣ M + 1) := by
  have h1 := Int.emod_nonneg M (show d ≠ 0 by omega)
  have h2 := Int.emod_lt_of_pos M hd
  have h3 := Int.emod_add_mul_ediv M d
  unfold ind
  by_cases hr : M % d + 1 = d
  · have e : M + 1 = d * (M / d + 1) := by rw [Int.mul_add, Int.mul_one]; omega
    rw [if_pos (by rw [e]; exact Int.dvd_mul_right ..)]
    conv => lhs; rw [e]
    rw [Int.mul_ediv_cancel_left _ (by omega)]
  · have q := (Int.ediv_emod_unique (a := M + 1) (b := d) (r := M % d + 1) (q := M / d) hd).mpr ⟨by omega, by omega, by omega⟩
    rw [q.1, if_neg]
    · omega
    · intro z
      have := Int.emod_eq_zero_of_dvd z
      omega
/-- how many k from 1 to M does d divide -/
theorem ind_dvd {d : Int} (hd : 0 < d) : ∀ M : Nat, sumN (fun k => ind (d ∣ (k : Int) + 1)) M = (M : Int) / d
  | 0 => by simp [sumN]
  | M + 1 => by
    show sumN _ M + ind (d ∣ (M : Int) + 1) = ((M : Int) + 1) / d
    rw [ind_dvd hd M, dvd_succ hd]
theorem cop_dvd {d x y : Int} (h : Int.gcd d x = 1) (g : d ∣ x * y) : d ∣ y := by
  have g2 := Int.natAbs_dvd_natAbs.mpr g
  rw [Int.natAbs_mul] at g2
  exact Int.natAbs_dvd_natAbs.mp (Nat.Coprime.dvd_of_dvd_mul_left (show Nat.Coprime d.natAbs x.natAbs from h) g2)
theorem ind_mul {a m : Int} {M : Nat} (hm : m = 2 * M + 1) : sumN (fun k => ind (m ∣ a * ((k : Int) + 1))) M = ((Int.gcd a m : Nat) - 1) / 2 := by
  have gp : 0 < Int.gcd a m := by
    rcases Nat.eq_zero_or_pos (Int.gcd a m) with q | q
    · have := (Int.gcd_eq_zero_iff.mp q).2; omega
    · exact q
  obtain ⟨x, hx⟩ : ((Int.gcd a m : Nat) : Int) ∣ a := Int.gcd_dvd_left ..
  obtain ⟨d, hd⟩ : ((Int.gcd a m : Nat) : Int) ∣ m := Int.gcd_dvd_right ..
  have cop : Int.gcd d x = 1 := by
    have := Int.gcd_mul_left (Int.gcd a m : Nat) x d
    rw [← hx, ← hd, Int.natAbs_natCast] at this
    rw [Int.gcd_comm]
    exact Nat.eq_of_mul_eq_mul_left gp (by rw [Nat.mul_one]; exact this.symm)
  generalize Int.gcd a m = G at *
  have d0 : 0 < d := by
    have : 0 < (G : Int) * d := by omega
    rcases Int.lt_trichotomy 0 d with z | z | z
    · exact z
    · rw [← z, Int.mul_zero] at this; omega
    · have := Int.mul_nonpos_of_nonneg_of_nonpos (show 0 ≤ (G : Int) by omega) (show d ≤ 0 by omega)
      omega
  have e : ∀ k : Nat, m ∣ a * ((k : Int) + 1) ↔ d ∣ (k : Int) + 1 := by
    intro k
    rw [hx, hd, Int.mul_assoc]
    rw [Int.mul_dvd_mul_iff_left (by omega)]
    constructor
    · intro h
      exact cop_dvd cop h
    · intro h
      exact Int.dvd_mul_of_dvd_right h
  have e2 : sumN (fun k => ind (m ∣ a * ((k : Int) + 1))) M = sumN (fun k => ind (d ∣ (k : Int) + 1)) M := sumN_congr fun k _ => by
    unfold ind
    simp only [e]
  rw [e2, ind_dvd d0]
  -- G d = 2 M + 1
  have odd : (G : Int) % 2 = 1 ∧ d % 2 = 1 := by
    have h : ((G : Int) * d) % 2 = 1 := by omega
    rw [Int.mul_emod] at h
    have h1 : (G : Int) % 2 = 0 ∨ (G : Int) % 2 = 1 := by omega
    have h2 : d % 2 = 0 ∨ d % 2 = 1 := by omega
    rcases h1 with h1 | h1 <;> rcases h2 with h2 | h2 <;> rw [h1, h2] at h <;> simp at h
    exact ⟨h1, h2⟩
  obtain ⟨u, hu⟩ : ∃ u : Int, (G : Int) = 2 * u + 1 := ⟨(G : Int) / 2, by omega⟩
  obtain ⟨w, hw⟩ : ∃ w : Int, d = 2 * w + 1 := ⟨d / 2, by omega⟩
  have e3 : (M : Int) = w + d * u := by
    have h : m = (2 * u + 1) * d := by rw [hd, hu]
    rw [Int.add_mul, Int.mul_assoc, Int.mul_comm u d] at h
    omega
  have q := (Int.ediv_emod_unique (a := (M : Int)) (b := d) (r := w) (q := u) d0).mpr ⟨by omega, by omega, by omega⟩
  rw [q.1, hu]
  omega
/-- the other sign -/
theorem pts_neg {a m : Int} {M : Nat} (hm : 0 < m) : pts (-a) m M = sumN (fun k => ind (m ∣ a * ((k : Int) + 1))) M - M - pts a m M := by
  have e : sumN (fun k => ind (m ∣ a * ((k : Int) + 1))) M - M - pts a m M = sumN (fun k => ind (m ∣ a * ((k : Int) + 1)) - 1 - a * ((k : Int) + 1) / m) M := by
    rw [sumN_sub, sumN_sub, sumN_const, Int.one_mul]
    rfl
  rw [e]
  refine sumN_congr fun k _ => ?_
  show -a * ((k : Int) + 1) / m = _
  rw [Int.neg_mul]
  generalize a * ((k : Int) + 1) = v
  have h1 := Int.emod_nonneg v (show m ≠ 0 by omega)
  have h2 := Int.emod_lt_of_pos v hm
  have h3 := Int.emod_add_mul_ediv v m
  unfold ind
  by_cases hd : m ∣ v
  · rw [if_pos hd, Int.neg_ediv_of_dvd hd]; omega
  · rw [if_neg hd]
    have : v % m ≠ 0 := fun z => hd (Int.dvd_of_emod_eq_zero z)
    have e4 : m * (-(v / m) - 1) = - (m * (v / m)) - m := by rw [Int.mul_sub, Int.mul_neg, Int.mul_one]
    have q := (Int.ediv_emod_unique (a := -v) (b := m) (r := m - v % m) (q := -(v / m) - 1) hm).mpr ⟨by omega, by omega, by omega⟩
    rw [q.1]
    omega
theorem pts_add {a m c : Int} {M : Nat} (hm : 0 < m) : pts (a + c * m) m M = pts a m M + c * sumN (fun k => (k : Int) + 1) M := by
  unfold pts
  rw [← sumN_mul, ← sumN_add]
  refine sumN_congr fun k _ => ?_
  show (a + c * m) * ((k : Int) + 1) / m = _
  have : (a + c * m) * ((k : Int) + 1) = a * ((k : Int) + 1) + (c * ((k : Int) + 1)) * m := by
    rw [Int.add_mul, Int.mul_assoc, Int.mul_comm m, Int.mul_assoc]
  rw [this, Int.add_mul_ediv_right _ _ (by omega)]
theorem tri1 (M : Nat) : sumN (fun k => (k : Int) + 1) M = ((2 * (M : Int) + 1) * (2 * M + 1) - 1) / 8 := by
  have h := sumN_id M
  rw [sumN_add, sumN_const, Int.one_mul]
  generalize sumN (fun k => (k : Int)) M = S at *
  have e : (2 * (M : Int) + 1) * (2 * M + 1) - 1 = 8 * (S + M) := by
    rw [Int.mul_sub, Int.mul_one] at h
    rw [Int.add_mul, Int.mul_add, Int.one_mul, Int.mul_one, Int.mul_assoc, Int.mul_left_comm (M : Int)]
    omega
  rw [e, Int.mul_ediv_cancel_left _ (by decide)]
def pt (a m : Int) : Int := pts a m ((m - 1) / 2).toNat
theorem odd_half {m : Int} (h0 : 0 < m) (h1 : m % 2 = 1) : m = 2 * (((m - 1) / 2).toNat : Int) + 1 := by omega
theorem flo_pt {a m : Int} (h0 : 0 < m) (h1 : m % 2 = 1) : flo ((m + 1) / 2).toNat m a 0 = pt a m := by
  have : ((m + 1) / 2).toNat = ((m - 1) / 2).toNat + 1 := by omega
  rw [this, flo_pts]; rfl
theorem gcd_odd {a m : Int} (h1 : m % 2 = 1) : ((Int.gcd a m : Nat) : Int) % 2 = 1 := by
  have h : ((Int.gcd a m : Nat) : Int) ∣ m := Int.gcd_dvd_right ..
  rcases (by omega : ((Int.gcd a m : Nat) : Int) % 2 = 0 ∨ ((Int.gcd a m : Nat) : Int) % 2 = 1) with q | q
  · have := Int.dvd_trans (Int.dvd_of_emod_eq_zero q) h
    omega
  · exact q
theorem pt_pair {a m : Int} (ha0 : 0 < a) (ha1 : a % 2 = 1) (hm0 : 0 < m) (hm1 : m % 2 = 1) : pt a m + pt m a = (a - 1) * (m - 1) / 4 + (((Int.gcd a m : Nat) : Int) - 1) / 2 := by
  have ea := odd_half ha0 ha1
  have em := odd_half hm0 hm1
  have h := pts_pair ea em
  rw [ind_mul em] at h
  have e : (a - 1) * (m - 1) / 4 = (((a - 1) / 2).toNat : Int) * ((m - 1) / 2).toNat := by
    generalize ((a - 1) / 2).toNat = A at *
    generalize ((m - 1) / 2).toNat = M at *
    have : (a - 1) * (m - 1) = 4 * ((A : Int) * M) := by
      rw [show a - 1 = 2 * (A : Int) by omega, show m - 1 = 2 * (M : Int) by omega, Int.mul_assoc, Int.mul_left_comm (A : Int)]
      omega
    rw [this, Int.mul_ediv_cancel_left _ (by decide)]
  rw [e]
  exact h
theorem pt_neg {a m : Int} (hm0 : 0 < m) (hm1 : m % 2 = 1) : pt (-a) m = -pt a m - (m - (Int.gcd a m : Nat)) / 2 := by
  have em := odd_half hm0 hm1
  have g := gcd_odd (a := a) hm1
  unfold pt
  rw [pts_neg hm0, ind_mul em]
  omega
theorem pt_add {a m c : Int} (hm0 : 0 < m) (hm1 : m % 2 = 1) : pt (a + c * m) m = pt a m + c * ((m * m - 1) / 8) := by
  have em := odd_half hm0 hm1
  unfold pt
  rw [pts_add hm0, tri1]
  congr 3
  rw [← em]
theorem pt_list {a m : Int} (hm0 : 0 < m) (hm1 : m % 2 = 1) : ((List.range ((m + 1) / 2 - 1).toNat).map fun k : Nat => a * (1 + (k : Int)) / m).sum = pt a m := by
  rw [sumN_list (fun k => a * (1 + (k : Int)) / m)]
  unfold pt pts
  have : ((m + 1) / 2 - 1).toNat = ((m - 1) / 2).toNat := by omega
  rw [this]
  exact sumN_congr fun k _ => by rw [Int.add_comm]
theorem pt_list2 {a m : Int} (hm0 : 0 < m) (hm1 : m % 2 = 1) : ((List.range (((m + 1) / 2).toNat - 1)).map fun k : Nat => a * (1 + (k : Int)) / m).sum = pt a m := by
  have : ((m + 1) / 2).toNat - 1 = ((m + 1) / 2 - 1).toNat := by omega
  rw [this, pt_list hm0 hm1]
theorem len_filter (p : Nat → Bool) : ∀ n : Nat, (((List.range n).filter p).length : Int) = sumN (fun k => ind (p k = true)) n
  | 0 => rfl
  | n + 1 => by
    rw [List.range_succ, List.filter_append, List.length_append]
    show _ = sumN _ n + ind (p n = true)
    rw [← len_filter p n]
    unfold ind
    by_cases h : p n = true
    · rw [if_pos h, List.filter_cons_of_pos h]; simp
    · rw [if_neg h, List.filter_cons_of_neg h]; simp
/-! ### the numbers of rests above the half -/
def ov (a m : Int) : Int := pt (2 * a) m - 2 * pt a m
theorem twice_div {v m : Int} (hm : 0 < m) (h1 : m % 2 = 1) : 2 * v / m - 2 * (v / m) = ind (m < 2 * (v % m)) := by
  have r0 := Int.emod_nonneg v (show m ≠ 0 by omega)
  have r1 := Int.emod_lt_of_pos v hm
  have hd := Int.emod_add_mul_ediv v m
  have e4 : m * (2 * (v / m)) = 2 * (m * (v / m)) := Int.mul_left_comm ..
  unfold ind
  by_cases h : m < 2 * (v % m)
  · rw [if_pos h]
    have e5 : m * (2 * (v / m) + 1) = 2 * (m * (v / m)) + m := by rw [Int.mul_add, Int.mul_one, e4]
    have q := (Int.ediv_emod_unique (a := 2 * v) (b := m) (r := 2 * (v % m) - m) (q := 2 * (v / m) + 1) hm).mpr ⟨by omega, by omega, by omega⟩
    rw [q.1]; omega
  · rw [if_neg h]
    have q := (Int.ediv_emod_unique (a := 2 * v) (b := m) (r := 2 * (v % m)) (q := 2 * (v / m)) hm).mpr ⟨by omega, by omega, by omega⟩
    rw [q.1]; omega
theorem ov_ind {a m : Int} (hm : 0 < m) (h1 : m % 2 = 1) : ov a m = sumN (fun k => ind (m < 2 * (a * ((k : Int) + 1) % m))) ((m - 1) / 2).toNat := by
  unfold ov pt pts
  rw [← sumN_mul, ← sumN_sub]
  refine sumN_congr fun k _ => ?_
  show 2 * a * ((k : Int) + 1) / m - 2 * (a * ((k : Int) + 1) / m) = _
  rw [Int.mul_assoc, twice_div hm h1]
theorem ov_list {a m : Int} (hm : 0 < m) (h1 : m % 2 = 1) : (((List.range (((m + 1) / 2).toNat - 1)).filter fun k : Nat => decide (m < 2 * (a * (1 + (k : Int)) % m))).length : Int) = ov a m := by
  rw [len_filter, ov_ind hm h1]
  have : ((m + 1) / 2).toNat - 1 = ((m - 1) / 2).toNat := by omega
  rw [this]
  refine sumN_congr fun k _ => ?_
  unfold ind
  simp only [decide_eq_true_eq, Int.add_comm]
theorem gcd_two {a m : Int} (h1 : m % 2 = 1) : Int.gcd (2 * a) m = Int.gcd a m := by
  unfold Int.gcd
  rw [Int.natAbs_mul]
  refine Nat.Coprime.gcd_mul_left_cancel _ ?_
  show Nat.gcd 2 m.natAbs = 1
  rw [Nat.gcd_rec, show m.natAbs % 2 = 1 by omega]
  rfl
theorem ov_neg {a m : Int} (hm : 0 < m) (h1 : m % 2 = 1) : ov (-a) m = (m - (Int.gcd a m : Nat)) / 2 - ov a m := by
  unfold ov
  rw [Int.mul_neg, pt_neg hm h1, pt_neg hm h1, gcd_two h1]
  omega
theorem ov_add {a m c : Int} (hm : 0 < m) (h1 : m % 2 = 1) : ov (a + c * m) m = ov a m := by
  unfold ov
  rw [Int.mul_add, ← Int.mul_assoc, pt_add hm h1, pt_add hm h1, Int.mul_assoc]
  omega
theorem ov_one {m : Int} (hm : 0 < m) (h1 : m % 2 = 1) : ov 1 m = 0 := by
  rw [ov_ind hm h1]
  have : sumN (fun k => ind (m < 2 * (1 * ((k : Int) + 1) % m))) ((m - 1) / 2).toNat = sumN (fun _ => 0) ((m - 1) / 2).toNat := sumN_congr fun k hk => by
    unfold ind
    rw [Int.one_mul, Int.emod_eq_of_lt (by omega) (by omega), if_neg (by omega)]
  rw [this, sumN_const]; simp
theorem ov_two {m : Int} (hm : 0 < m) (h1 : m % 2 = 1) : ov 2 m = (m - 1) / 2 - m / 4 := by
  rw [ov_ind hm h1]
  have : sumN (fun k => ind (m < 2 * (2 * ((k : Int) + 1) % m))) ((m - 1) / 2).toNat = sumN (fun k => ind (m < 4 * ((k : Int) + 1))) ((m - 1) / 2).toNat := sumN_congr fun k hk => by
    unfold ind
    rw [Int.emod_eq_of_lt (by omega) (by omega), ← Int.mul_assoc]
    rfl
  rw [this]
  have key : ∀ M : Nat, sumN (fun k => ind (m < 4 * ((k : Int) + 1))) M = if (M : Int) ≤ m / 4 then 0 else M - m / 4 := by
    intro M
    induction M with
    | zero => show (0 : Int) = _; rw [if_pos (by omega)]
    | succ M ih =>
      show sumN _ M + ind (m < 4 * ((M : Int) + 1)) = _
      rw [ih]
      unfold ind
      split <;> split <;> split <;> omega
  rw [key]
  split <;> omega
theorem ov_neg1 {m : Int} (hm : 0 < m) (h1 : m % 2 = 1) : ov (-1) m = (m - 1) / 2 := by
  rw [ov_neg hm h1, ov_one hm h1]
  have : Int.gcd 1 m = 1 := Int.one_gcd ..
  rw [this]; simp

/-! ### the rows of a sign -/
def stepJ (a m s : Int) : Int × Int × Int :=
  if 0 ≤ a ∧ a < m then
    (if a % 2 = 0 then (a / 2, m, if m % 8 = 3 ∨ m % 8 = 5 then -s else s) else (m, a, if a % 4 = 3 ∧ m % 4 = 3 then -s else s))
  else (a % m, m, s)
def muJ (a m : Int) : Nat := if 0 ≤ a ∧ a < m then 2 * (a + m).toNat else 2 * (a % m + m).toNat + 1
theorem stepJ_pos {a m s : Int} (hm : 0 < m) (ha : a ≠ 0) : 0 < (stepJ a m s).2.1 := by
  unfold stepJ
  split
  · split
    · exact hm
    · show 0 < a; omega
  · exact hm
theorem stepJ_mu {a m s : Int} (hm : 0 < m) (ha : a ≠ 0) : muJ (stepJ a m s).1 (stepJ a m s).2.1 < muJ a m := by
  have e0 := Int.emod_nonneg a (show m ≠ 0 by omega)
  have e1 := Int.emod_lt_of_pos a hm
  unfold stepJ
  split
  · rename_i h
    split
    · show muJ (a / 2) m < _
      unfold muJ
      rw [if_pos ⟨by omega, by omega⟩, if_pos h]
      omega
    · show muJ m a < _
      have f0 := Int.emod_nonneg m (show a ≠ 0 by omega)
      have f1 := Int.emod_lt_of_pos m (show 0 < a by omega)
      have f2 := Int.emod_add_mul_ediv m a
      have f3 : 1 ≤ m / a := by rw [Int.le_ediv_iff_mul_le (by omega)]; omega
      have f4 : a * 1 ≤ a * (m / a) := Int.mul_le_mul_of_nonneg_left f3 (by omega)
      unfold muJ
      rw [if_neg (by omega), if_pos h]
      omega
  · rename_i h
    show muJ (a % m) m < _
    unfold muJ
    rw [if_pos ⟨e0, e1⟩, if_neg h]
    omega
def jrows (a m s : Int) : List (Int × Int × Int) :=
  (a, m, s) :: (if h : 0 < m ∧ a ≠ 0 then jrows (stepJ a m s).1 (stepJ a m s).2.1 (stepJ a m s).2.2 else [])
termination_by muJ a m
decreasing_by exact stepJ_mu h.1 h.2
theorem jrows_eq {a m s : Int} (hm : 0 < m) : jrows a m s = (a, m, s) :: (if a ≠ 0 then jrows (stepJ a m s).1 (stepJ a m s).2.1 (stepJ a m s).2.2 else []) := by
  rw [jrows]
  congr 1
  by_cases h : a ≠ 0
  · rw [if_pos h, dif_pos ⟨hm, h⟩]
  · rw [if_neg h, dif_neg (fun z => h z.2)]
theorem jrows_ne (a m s : Int) : jrows a m s ≠ [] := by rw [jrows]; simp
theorem jrows_len_in : ∀ (k : Nat) (a m s : Int), 0 ≤ a → a < m → a * m < 2 ^ k → (jrows a m s).length ≤ 2 * k + 1
  | k, a, m, s, h0, h1, hk => by
    rw [jrows_eq (by omega)]
    by_cases ha : a = 0
    · rw [if_neg (by simpa using ha)]; simp
    have p : 0 < a * m := Int.mul_pos (by omega) (by omega)
    match k, hk with
    | 0, hk => omega
    | k + 1, hk =>
      rw [if_pos ha, List.length_cons]
      unfold stepJ
      rw [if_pos ⟨h0, h1⟩]
      have e2 : (2 : Int) ^ (k + 1) = 2 * 2 ^ k := by rw [Int.pow_succ]; omega
      by_cases h2 : a % 2 = 0
      · rw [if_pos h2]
        have e : a * m = 2 * (a / 2 * m) := by rw [← Int.mul_assoc]; congr 1; omega
        have := jrows_len_in k (a / 2) m (if m % 8 = 3 ∨ m % 8 = 5 then -s else s) (by omega) (by omega) (by omega)
        dsimp only
        omega
      · rw [if_neg h2]
        dsimp only
        generalize (if a % 4 = 3 ∧ m % 4 = 3 then -s else s) = s'
        have f0 := Int.emod_nonneg m (show a ≠ 0 by omega)
        have f1 := Int.emod_lt_of_pos m (show 0 < a by omega)
        have f2 := Int.emod_add_mul_ediv m a
        have f3 : 1 ≤ m / a := by rw [Int.le_ediv_iff_mul_le (by omega)]; omega
        have f4 : a * 1 ≤ a * (m / a) := Int.mul_le_mul_of_nonneg_left f3 (by omega)
        rw [jrows_eq (by omega), if_pos (by omega), List.length_cons]
        unfold stepJ
        rw [if_neg (by omega)]
        have f5 : 2 * (m % a) * a ≤ m * a := Int.mul_le_mul_of_nonneg_right (by omega) (by omega)
        have f6 : m % a * a < 2 ^ k := by rw [Int.mul_assoc, Int.mul_comm m] at f5; omega
        have := jrows_len_in k (m % a) a s' f0 f1 f6
        dsimp only
        omega
termination_by k => k
theorem jrows_len {a m s : Int} {k : Nat} (hm : 0 < m) (hk : fits k m) : (jrows a m s).length ≤ 4 * k + 2 := by
  have key : ∀ a s, 0 ≤ a → a < m → (jrows a m s).length ≤ 4 * k + 1 := fun a s h0 h1 => by
    have q1 : m < 2 ^ k := by
      have h : m.natAbs < 2 ^ k := hk
      have e : ((2 ^ k : Nat) : Int) = (2 : Int) ^ k := by simp
      rw [← e]
      omega
    have q2 : a * m < 2 ^ (2 * k) := by
      have e : (2 : Int) ^ (2 * k) = 2 ^ k * 2 ^ k := by rw [← Int.pow_add]; congr 1; omega
      rw [e]
      exact Int.lt_of_le_of_lt (Int.mul_le_mul_of_nonneg_right (by omega : a ≤ 2 ^ k) (by omega)) (Int.mul_lt_mul_of_pos_left q1 (by omega))
    have := jrows_len_in (2 * k) a m s h0 h1 q2
    omega
  by_cases h : 0 ≤ a ∧ a < m
  · have := key a s h.1 h.2; omega
  · rw [jrows_eq hm, List.length_cons]
    split
    · unfold stepJ
      rw [if_neg h]
      have := key (a % m) s (Int.emod_nonneg a (show m ≠ 0 by omega)) (Int.emod_lt_of_pos a hm)
      dsimp only
      omega
    · simp
def jrD (q : Int × Int × Int) : D := .tup [.int q.1, .int q.2.1, .int q.2.2]
/-- what one step keeps -/
structure JI (T : List (Int × Int × Int)) (a m s : Int) (qs : List (Int × Int × Int)) : Prop where
  m0 : 0 < m
  fm : fits 2000 m
  fa : fits 2000 a
  s1 : s = 1 ∨ s = -1
  eq : qs ++ jrows a m s = T
theorem JI.step {T qs : List (Int × Int × Int)} {a m s : Int} (h : JI T a m s qs) (ha : a ≠ 0) : JI T (stepJ a m s).1 (stepJ a m s).2.1 (stepJ a m s).2.2 (qs ++ [(a, m, s)]) := by
  obtain ⟨m0, fm, fa, s1, eq⟩ := h
  have e0 := Int.emod_nonneg a (show m ≠ 0 by omega)
  have e1 := Int.emod_lt_of_pos a m0
  refine ⟨stepJ_pos m0 ha, ?_, ?_, ?_, ?_⟩
  · unfold stepJ
    split
    · split
      · exact fm
      · exact fa
    · exact fm
  · unfold stepJ
    split
    · split
      · exact fits_nat fm (by show 0 ≤ a / 2; omega) (by show a / 2 ≤ m; omega)
      · exact fm
    · exact fits_nat fm e0 (by show a % m ≤ m; omega)
  · unfold stepJ
    split
    · split
      · dsimp only; split <;> omega
      · dsimp only; split <;> omega
    · exact s1
  · rw [jrows_eq m0, if_pos ha] at eq
    rw [List.append_assoc]
    exact eq
def jac (a m : Int) : Int := match (jrows a m 1).getLast? with
  | some q => if q.2.1 = 1 then q.2.2 else 0
  | none => 0
theorem atI_mapLast {α : Type} {φ : α → D} {xs : List α} (h : xs ≠ []) : atI (xs.map φ) (-1) = some (φ (xs.getLast h)) := by
  have hl : 0 < xs.length := List.length_pos_iff.mpr h
  unfold atI ixN
  rw [if_neg (by decide), if_pos (by rw [List.length_map]; omega)]
  show (List.map φ xs)[_]? = _
  rw [List.length_map, show (-1 + (xs.length : Int)).toNat = xs.length - 1 by omega, List.getElem?_map, List.getLast_eq_getElem, List.getElem?_eq_getElem (by omega)]
  rfl

/-! ### permuted sums -/
theorem nodup_len : ∀ (n : Nat) (l : List Nat), l.Nodup → (∀ x ∈ l, x < n) → l.length ≤ n
  | 0, l, _, h => by
    match l, h with
    | [], _ => simp
    | x :: _, h => exact absurd (h x List.mem_cons_self) (by omega)
  | n + 1, l, hd, h => by
    by_cases hn : n ∈ l
    · have h1 := nodup_len n (l.erase n) (hd.erase n) (fun x hx => by
        have := (List.Nodup.mem_erase_iff hd).mp hx
        have := h x this.2
        omega)
      rw [List.length_erase_of_mem hn] at h1
      omega
    · have := nodup_len n l hd (fun x hx => by
        have := h x hx
        have : x ≠ n := fun e => hn (e ▸ hx)
        omega)
      omega
theorem perm_range : ∀ (n : Nat) (l : List Nat), l.Nodup → (∀ x ∈ l, x < n) → l.length = n → l.Perm (List.range n)
  | 0, l, _, _, hl => by rw [List.length_eq_zero_iff.mp hl]; exact List.Perm.refl _
  | n + 1, l, hd, h, hl => by
    have hn : n ∈ l := by
      rcases Classical.em (n ∈ l) with q | q
      · exact q
      · have := nodup_len n l hd (fun x hx => by
          have := h x hx
          have : x ≠ n := fun e => q (e ▸ hx)
          omega)
        omega
    have h1 := perm_range n (l.erase n) (hd.erase n) (fun x hx => by
        have := (List.Nodup.mem_erase_iff hd).mp hx
        have := h x this.2
        omega) (by rw [List.length_erase_of_mem hn]; omega)
    rw [List.range_succ]
    exact (List.perm_cons_erase hn).trans ((h1.cons n).trans (List.perm_append_singleton n _).symm)
theorem perm_sum {xs ys : List Int} (h : xs.Perm ys) : xs.sum = ys.sum := by
  induction h with
  | nil => rfl
  | cons x _ ih => simp [ih]
  | swap x y l => simp; omega
  | trans _ _ h1 h2 => exact h1.trans h2
theorem sumN_perm {M : Nat} {g : Nat → Nat} (hlt : ∀ k, k < M → g k < M) (hin : ∀ i j, i < M → j < M → g i = g j → i = j) (F : Nat → Int) : sumN (fun k => F (g k)) M = sumN F M := by
  rw [← sumN_list, ← sumN_list]
  have hp : ((List.range M).map g).Perm (List.range M) := by
    refine perm_range M _ ?_ ?_ (by simp)
    · rw [List.Nodup, List.pairwise_map]
      refine List.Pairwise.imp_of_mem ?_ (List.nodup_range (n := M))
      intro a b ha hb hab e
      exact hab (hin a b (List.mem_range.mp ha) (List.mem_range.mp hb) e)
    · intro x hx
      obtain ⟨k, hk, rfl⟩ := List.mem_map.mp hx
      exact hlt k (List.mem_range.mp hk)
  have h2 := hp.map F
  rw [List.map_map] at h2
  exact perm_sum h2
/-! ### least rests -/
def ovr (m x : Int) : Int := ind (m < 2 * (x % m))
theorem ov_ovr {a m : Int} (hm : 0 < m) (h1 : m % 2 = 1) : ov a m = sumN (fun k => ovr m (a * ((k : Int) + 1))) ((m - 1) / 2).toNat := ov_ind hm h1
def la (b m : Int) (k : Nat) : Nat := (if m < 2 * (b * ((k : Int) + 1) % m) then m - b * ((k : Int) + 1) % m - 1 else b * ((k : Int) + 1) % m - 1).toNat
theorem rest_ne {b m : Int} {k : Nat} (hm : 0 < m) (hg : Int.gcd b m = 1) (hk : (k : Int) + 1 < m) : b * ((k : Int) + 1) % m ≠ 0 := by
  intro z
  have h := cop_dvd (by rw [Int.gcd_comm]; exact hg) (Int.dvd_of_emod_eq_zero z)
  have := Int.emod_eq_zero_of_dvd h
  rw [Int.emod_eq_of_lt (by omega) hk] at this
  omega
theorem la_lt {b m : Int} {k : Nat} (hm : 0 < m) (h1 : m % 2 = 1) (hg : Int.gcd b m = 1) (hk : k < ((m - 1) / 2).toNat) : la b m k < ((m - 1) / 2).toNat := by
  have r0 := rest_ne (k := k) hm hg (by omega)
  have r1 := Int.emod_nonneg (b * ((k : Int) + 1)) (show m ≠ 0 by omega)
  have r2 := Int.emod_lt_of_pos (b * ((k : Int) + 1)) hm
  unfold la
  split <;> omega
theorem la_val {b m : Int} {k : Nat} (hm : 0 < m) (h1 : m % 2 = 1) (hg : Int.gcd b m = 1) (hk : k < ((m - 1) / 2).toNat) : (la b m k : Int) + 1 = if m < 2 * (b * ((k : Int) + 1) % m) then m - b * ((k : Int) + 1) % m else b * ((k : Int) + 1) % m := by
  have r0 := rest_ne (k := k) hm hg (by omega)
  have r1 := Int.emod_nonneg (b * ((k : Int) + 1)) (show m ≠ 0 by omega)
  have r2 := Int.emod_lt_of_pos (b * ((k : Int) + 1)) hm
  unfold la
  split <;> omega
theorem small_dvd {m x : Int} (h : m ∣ x) (h0 : -m < x) (h1 : x < m) : x = 0 := by
  obtain ⟨c, rfl⟩ := h
  rcases Int.lt_trichotomy c 0 with z | z | z
  · have := Int.mul_le_mul_of_nonneg_left (show c ≤ -1 by omega) (show 0 ≤ m by omega)
    omega
  · rw [z, Int.mul_zero]
  · have := Int.mul_le_mul_of_nonneg_left (show 1 ≤ c by omega) (show 0 ≤ m by omega)
    omega
theorem la_inj {b m : Int} (hm : 0 < m) (h1 : m % 2 = 1) (hg : Int.gcd b m = 1) {i j : Nat} (hi : i < ((m - 1) / 2).toNat) (hj : j < ((m - 1) / 2).toNat) (h : la b m i = la b m j) : i = j := by
  have ei := la_val hm h1 hg hi
  have ej := la_val hm h1 hg hj
  have di := Int.emod_add_mul_ediv (b * ((i : Int) + 1)) m
  have dj := Int.emod_add_mul_ediv (b * ((j : Int) + 1)) m
  rw [h] at ei
  have cop : Int.gcd m b = 1 := by rw [Int.gcd_comm]; exact hg
  have same : ∀ c : Int, b * ((i : Int) + 1) - b * ((j : Int) + 1) = m * c → i = j := fun c hc => by
    rw [← Int.mul_sub] at hc
    have h2 := cop_dvd cop ⟨c, hc⟩
    have := small_dvd h2 (by omega) (by omega)
    omega
  have other : ∀ c : Int, b * ((i : Int) + 1) + b * ((j : Int) + 1) = m * c → i = j := fun c hc => by
    rw [← Int.mul_add] at hc
    have h2 := cop_dvd cop ⟨c, hc⟩
    have := small_dvd h2 (by omega) (by omega)
    omega
  have m1 : ∀ x y : Int, m * (x - y) = m * x - m * y := fun x y => Int.mul_sub ..
  have m2 : ∀ x y : Int, m * (x + y) = m * x + m * y := fun x y => Int.mul_add ..
  split at ei <;> split at ej
  · exact same (b * ((i : Int) + 1) / m - b * ((j : Int) + 1) / m) (by rw [m1]; omega)
  · refine other (b * ((i : Int) + 1) / m + b * ((j : Int) + 1) / m + 1) (by rw [m2, m2]; omega)
  · refine other (b * ((i : Int) + 1) / m + b * ((j : Int) + 1) / m + 1) (by rw [m2, m2]; omega)
  · exact same (b * ((i : Int) + 1) / m - b * ((j : Int) + 1) / m) (by rw [m1]; omega)
theorem sum_la {b m : Int} (hm : 0 < m) (h1 : m % 2 = 1) (hg : Int.gcd b m = 1) (F : Nat → Int) : sumN (fun k => F (la b m k)) ((m - 1) / 2).toNat = sumN F ((m - 1) / 2).toNat :=
  sumN_perm (fun _ hk => la_lt hm h1 hg hk) (fun _ _ hi hj h => la_inj hm h1 hg hi hj h) F
/-! ### two sums alike by two -/
theorem sumN_mod {f g : Nat → Int} : ∀ {n : Nat}, (∀ k, k < n → f k % 2 = g k % 2) → sumN f n % 2 = sumN g n % 2
  | 0, _ => rfl
  | n + 1, h => by
    have h1 := sumN_mod (n := n) fun k hk => h k (by omega)
    have h2 := h n (by omega)
    show (sumN f n + f n) % 2 = (sumN g n + g n) % 2
    omega
theorem ovr_mod {m x y : Int} (h : x % m = y % m) : ovr m x = ovr m y := by unfold ovr; rw [h]
theorem ovr_neg {m x : Int} (hm : 0 < m) (h1 : m % 2 = 1) (hx : x % m ≠ 0) : ovr m (-x) = 1 - ovr m x := by
  have r1 := Int.emod_nonneg x (show m ≠ 0 by omega)
  have r2 := Int.emod_lt_of_pos x hm
  have hd := Int.emod_add_mul_ediv x m
  have e4 : m * (-(x / m) - 1) = - (m * (x / m)) - m := by rw [Int.mul_sub, Int.mul_neg, Int.mul_one]
  have q := (Int.ediv_emod_unique (a := -x) (b := m) (r := m - x % m) (q := -(x / m) - 1) hm).mpr ⟨by omega, by omega, by omega⟩
  unfold ovr ind
  rw [q.2]
  split <;> split <;> omega
theorem ov_mul {a b m : Int} (hm : 0 < m) (h1 : m % 2 = 1) (ha : Int.gcd a m = 1) (hb : Int.gcd b m = 1) : ov (a * b) m % 2 = (ov a m + ov b m) % 2 := by
  rw [ov_ovr hm h1, ov_ovr hm h1, ov_ovr hm h1, ← sum_la hm h1 hb (fun k => ovr m (a * ((k : Int) + 1))), ← sumN_add]
  refine sumN_mod fun k hk => ?_
  have ek := la_val hm h1 hb hk
  have hl := la_lt hm h1 hb hk
  have hr := rest_ne (b := a) (k := la b m k) hm ha (by omega)
  have dk := Int.emod_add_mul_ediv (b * ((k : Int) + 1)) m
  generalize b * ((k : Int) + 1) / m = c at *
  rw [Int.mul_assoc]
  generalize hy : (la b m k : Int) + 1 = y at *
  show ovr m (a * (b * ((k : Int) + 1))) % 2 = (ovr m (a * y) + ovr m (b * ((k : Int) + 1))) % 2
  have e1 : ∀ t : Int, (a * y + m * t) % m = a * y % m := fun t => Int.add_mul_emod_self_left ..
  have e2 : ∀ t : Int, (-(a * y) + m * t) % m = -(a * y) % m := fun t => Int.add_mul_emod_self_left ..
  have ol : ovr m (b * ((k : Int) + 1)) = if m < 2 * (b * ((k : Int) + 1) % m) then 1 else 0 := rfl
  split at ek
  · rename_i hc
    have : ovr m (a * (b * ((k : Int) + 1))) = ovr m (-(a * y)) := by
      apply ovr_mod
      have : a * (b * ((k : Int) + 1)) = -(a * y) + m * (a * (1 + c)) := by
        have e : b * ((k : Int) + 1) = -y + m * (1 + c) := by
          have e5 : m * (1 + c) = m + m * c := by rw [Int.mul_add, Int.mul_one]
          omega
        rw [e, Int.mul_add, Int.mul_neg, Int.mul_left_comm]
      rw [this, e2]
    rw [this, ovr_neg hm h1 hr, ol, if_pos hc]
    omega
  · rename_i hc
    have : ovr m (a * (b * ((k : Int) + 1))) = ovr m (a * y) := by
      apply ovr_mod
      have : a * (b * ((k : Int) + 1)) = a * y + m * (a * c) := by
        have e : b * ((k : Int) + 1) = y + m * c := by omega
        rw [e, Int.mul_add, Int.mul_left_comm]
      rw [this, e1]
    rw [this, ol, if_neg hc, Int.add_zero]
theorem ov_pt {a m : Int} (hm : 0 < m) (h1 : m % 2 = 1) (ha : Int.gcd a m = 1) (ha1 : a % 2 = 1) : ov a m % 2 = pt a m % 2 := by
  have key : sumN (fun k => a * ((k : Int) + 1)) ((m - 1) / 2).toNat % 2 = (pt a m + sumN (fun k => (k : Int) + 1) ((m - 1) / 2).toNat + ov a m) % 2 := by
    rw [ov_ovr hm h1, ← sum_la hm h1 ha (fun k => (k : Int) + 1)]
    unfold pt pts
    rw [← sumN_add, ← sumN_add]
    refine sumN_mod fun k hk => ?_
    have ek := la_val hm h1 ha hk
    have dk := Int.emod_add_mul_ediv (a * ((k : Int) + 1)) m
    have ol : ovr m (a * ((k : Int) + 1)) = if m < 2 * (a * ((k : Int) + 1) % m) then 1 else 0 := rfl
    generalize a * ((k : Int) + 1) / m = c at *
    generalize a * ((k : Int) + 1) % m = r at *
    generalize a * ((k : Int) + 1) = v at *
    have e : m * c % 2 = c % 2 := by rw [Int.mul_emod, h1]; omega
    show v % 2 = (c + ((la a m k : Int) + 1) + ovr m v) % 2
    rw [ek, ol]
    split <;> omega
  rw [sumN_mul] at key
  generalize sumN (fun k => (k : Int) + 1) ((m - 1) / 2).toNat = T at *
  have e : a * T % 2 = T % 2 := by rw [Int.mul_emod, ha1]; omega
  omega

/-! ### the sign -/
def sg (n : Int) : Int := if n % 2 = 0 then 1 else -1
theorem sg_mod {x y : Int} (h : x % 2 = y % 2) : sg x = sg y := by unfold sg; rw [h]
theorem sg_add (x y : Int) : sg (x + y) = sg x * sg y := by
  unfold sg
  split <;> split <;> split <;> omega
theorem sg_sq (x : Int) : sg x * sg x = 1 := by unfold sg; split <;> rfl
theorem sg_pm (x : Int) : sg x = 1 ∨ sg x = -1 := by unfold sg; split <;> simp
def J (a m : Int) : Int := if Int.gcd a m = 1 then sg (ov a m) else 0
theorem J_pm {a m : Int} (h : Int.gcd a m = 1) : J a m = 1 ∨ J a m = -1 := by unfold J; rw [if_pos h]; exact sg_pm _
theorem J_no {a m : Int} (h : Int.gcd a m ≠ 1) : J a m = 0 := by unfold J; rw [if_neg h]
theorem gcd_one_mul {a b m : Int} : Int.gcd (a * b) m = 1 ↔ Int.gcd a m = 1 ∧ Int.gcd b m = 1 := by
  unfold Int.gcd
  rw [Int.natAbs_mul]
  exact Nat.coprime_mul_iff_left
theorem J_mul {a b m : Int} (hm : 0 < m) (h1 : m % 2 = 1) : J (a * b) m = J a m * J b m := by
  by_cases ha : Int.gcd a m = 1
  · by_cases hb : Int.gcd b m = 1
    · unfold J
      rw [if_pos ha, if_pos hb, if_pos (gcd_one_mul.mpr ⟨ha, hb⟩), ← sg_add]
      exact sg_mod (ov_mul hm h1 ha hb)
    · rw [J_no hb, J_no (fun z => hb (gcd_one_mul.mp z).2), Int.mul_zero]
  · rw [J_no ha, J_no (fun z => ha (gcd_one_mul.mp z).1), Int.zero_mul]
theorem gcd_add {a m c : Int} : Int.gcd (a + c * m) m = Int.gcd a m := by
  rw [Int.mul_comm]
  exact Int.gcd_add_mul_left_left ..
theorem J_add {a m c : Int} (hm : 0 < m) (h1 : m % 2 = 1) : J (a + c * m) m = J a m := by
  unfold J
  rw [gcd_add, ov_add hm h1]
theorem J_emod {a m : Int} (hm : 0 < m) (h1 : m % 2 = 1) : J (a % m) m = J a m := by
  have h := Int.emod_add_mul_ediv a m
  have e : a = a % m + a / m * m := by rw [Int.mul_comm]; omega
  conv => rhs; rw [e]
  rw [J_add hm h1]
theorem J_sq {a m : Int} (hm : 0 < m) (h1 : m % 2 = 1) (h : Int.gcd a m = 1) : J (a * a) m = 1 := by
  rw [J_mul hm h1]
  rcases J_pm h with q | q <;> rw [q] <;> rfl
theorem J_neg1 {m : Int} (hm : 0 < m) (h1 : m % 2 = 1) : J (-1) m = if m % 4 = 1 then 1 else -1 := by
  have g : Int.gcd (-1) m = 1 := by simp [Int.gcd]
  unfold J sg
  rw [if_pos g, ov_neg1 hm h1]
  split <;> split <;> omega
theorem gcd2 {m : Int} (h1 : m % 2 = 1) : Int.gcd 2 m = 1 := by
  have := gcd_two (a := 1) h1
  rw [show (2 : Int) * 1 = 2 from rfl] at this
  rw [this]
  exact Int.one_gcd ..
theorem J_two {m : Int} (hm : 0 < m) (h1 : m % 2 = 1) : J 2 m = if m % 8 = 3 ∨ m % 8 = 5 then -1 else 1 := by
  unfold J sg
  rw [if_pos (gcd2 h1), ov_two hm h1]
  split <;> split <;> omega
theorem J_one {m : Int} (hm : 0 < m) (h1 : m % 2 = 1) : J 1 m = 1 := by
  unfold J
  rw [if_pos (Int.one_gcd ..), ov_one hm h1]; rfl
/-- exchanging -/
theorem J_turn {a m : Int} (ha : 0 < a) (ha1 : a % 2 = 1) (hm : 0 < m) (hm1 : m % 2 = 1) (g : Int.gcd a m = 1) : J a m * J m a = sg ((a - 1) * (m - 1) / 4) := by
  have g2 : Int.gcd m a = 1 := by rw [Int.gcd_comm]; exact g
  have h := pt_pair ha ha1 hm hm1
  rw [g] at h
  unfold J
  rw [if_pos g, if_pos g2, sg_mod (ov_pt hm hm1 g ha1), sg_mod (ov_pt ha ha1 g2 hm1), ← sg_add, h]
  simp
theorem quad {a m : Int} (ha1 : a % 2 = 1) (hm1 : m % 2 = 1) : sg ((a - 1) * (m - 1) / 4) = if a % 4 = 3 ∧ m % 4 = 3 then -1 else 1 := by
  obtain ⟨x, hx⟩ : ∃ x : Int, a = 2 * x + 1 := ⟨a / 2, by omega⟩
  obtain ⟨y, hy⟩ : ∃ y : Int, m = 2 * y + 1 := ⟨m / 2, by omega⟩
  have e : (a - 1) * (m - 1) = 4 * (x * y) := by
    rw [show a - 1 = 2 * x by omega, show m - 1 = 2 * y by omega, Int.mul_assoc, Int.mul_left_comm x]
    omega
  rw [e, Int.mul_ediv_cancel_left _ (by decide)]
  unfold sg
  have h : x * y % 2 = (x % 2) * (y % 2) % 2 := Int.mul_emod ..
  rcases (by omega : x % 2 = 0 ∨ x % 2 = 1) with q | q <;> rcases (by omega : y % 2 = 0 ∨ y % 2 = 1) with r | r <;> rw [q, r] at h <;> simp at h <;> split <;> split <;> omega
theorem J_exch {a m : Int} (ha : 0 < a) (ha1 : a % 2 = 1) (hm : 0 < m) (hm1 : m % 2 = 1) : J a m = (if a % 4 = 3 ∧ m % 4 = 3 then -1 else 1) * J m a := by
  by_cases g : Int.gcd a m = 1
  · have g2 : Int.gcd m a = 1 := by rw [Int.gcd_comm]; exact g
    have h := J_turn ha ha1 hm hm1 g
    rw [quad ha1 hm1] at h
    generalize (if a % 4 = 3 ∧ m % 4 = 3 then (-1 : Int) else 1) = e at *
    rcases J_pm g2 with q | q <;> rw [q] at h ⊢ <;> omega
  · have g2 : Int.gcd m a ≠ 1 := by rw [Int.gcd_comm]; exact g
    rw [J_no g, J_no g2, Int.mul_zero]
theorem J_half {a m : Int} (hm : 0 < m) (h1 : m % 2 = 1) (ha : a % 2 = 0) : J a m = (if m % 8 = 3 ∨ m % 8 = 5 then -1 else 1) * J (a / 2) m := by
  have e : a = 2 * (a / 2) := by omega
  conv => lhs; rw [e]
  rw [J_mul hm h1, J_two hm h1]
theorem J_zero {m : Int} (hm : 0 < m) : J 0 m = if m = 1 then 1 else 0 := by
  unfold J
  by_cases h : m = 1
  · subst h; simp [ov, pt, pts, sumN, sg]
  · rw [if_neg h, if_neg]
    rw [Int.gcd_zero_left]; omega
/-- one row keeps the sign -/
theorem stepJ_J {a m s : Int} (hm : 0 < m) (h1 : m % 2 = 1) : (stepJ a m s).2.2 * J (stepJ a m s).1 (stepJ a m s).2.1 = s * J a m ∧ (stepJ a m s).2.1 % 2 = 1 := by
  unfold stepJ
  split
  · rename_i h
    split
    · rename_i h2
      refine ⟨?_, h1⟩
      rw [J_half (a := a) hm h1 h2]
      dsimp only
      split <;> generalize J (a / 2) m = x <;> simp [Int.neg_mul, Int.mul_neg]
    · rename_i h2
      refine ⟨?_, by show a % 2 = 1; omega⟩
      rw [J_exch (a := a) (by omega) (by omega) hm h1]
      dsimp only
      split <;> generalize J m a = x <;> simp [Int.neg_mul, Int.mul_neg]
  · refine ⟨?_, h1⟩
    show s * J (a % m) m = _
    rw [J_emod hm h1]
theorem jac_last : ∀ (n : Nat) (a m s : Int), muJ a m ≤ n → 0 < m → m % 2 = 1 → (match (jrows a m s).getLast? with
    | some q => if q.2.1 = 1 then q.2.2 else 0
    | none => 0) = s * J a m
  | n, a, m, s, hn, hm, h1 => by
    rw [jrows_eq hm]
    by_cases ha : a = 0
    · subst ha
      rw [if_neg (by simp), J_zero hm]
      show (if m = 1 then s else 0) = _
      split <;> simp
    · rw [if_pos ha]
      have h2 := stepJ_J (a := a) (s := s) hm h1
      have h3 := stepJ_mu (s := s) hm ha
      match n, hn with
      | 0, hn => omega
      | n + 1, hn =>
        have ih := jac_last n (stepJ a m s).1 (stepJ a m s).2.1 (stepJ a m s).2.2 (by omega) (stepJ_pos hm ha) h2.2
        rw [h2.1] at ih
        rw [← ih]
        have hne := jrows_ne (stepJ a m s).1 (stepJ a m s).2.1 (stepJ a m s).2.2
        generalize jrows (stepJ a m s).1 (stepJ a m s).2.1 (stepJ a m s).2.2 = L at *
        match L, hne with
        | x :: L, _ => rw [List.getLast?_cons_cons]
theorem jac_J {a m : Int} (hm : 0 < m) (h1 : m % 2 = 1) : jac a m = J a m := by
  have := jac_last _ a m 1 (Nat.le_refl _) hm h1
  rw [Int.one_mul] at this
  exact this
theorem J_mulm {a m n : Int} (hm : 0 < m) (h1 : m % 2 = 1) (hn : 0 < n) (g1 : n % 2 = 1) : J a (m * n) = J a m * J a n := by
  have hmn : 0 < m * n := Int.mul_pos hm hn
  have h2 : m * n % 2 = 1 := by rw [Int.mul_emod, h1, g1]; rfl
  have key : ∀ b : Int, 0 < b → b % 2 = 1 → J b (m * n) = J b m * J b n := by
    intro b b0 b1
    rw [J_exch b0 b1 hmn h2, J_mul b0 b1, J_exch b0 b1 hm h1, J_exch b0 b1 hn g1]
    have h4 : m * n % 4 = (m % 4) * (n % 4) % 4 := Int.mul_emod ..
    generalize J m b = x
    generalize J n b = y
    rcases (by omega : m % 4 = 1 ∨ m % 4 = 3) with q | q <;> rcases (by omega : n % 4 = 1 ∨ n % 4 = 3) with r | r <;> rw [q, r] at h4 <;> simp at h4 <;> simp only [q, r, h4] <;> by_cases b3 : b % 4 = 3 <;> simp [b3, Int.neg_mul, Int.mul_neg]
  have up : ∀ c : Int, J a (m * n) = J (a + c * (m * n)) (m * n) ∧ J a m = J (a + c * (m * n)) m ∧ J a n = J (a + c * (m * n)) n := fun c => by
    refine ⟨(J_add hmn h2).symm, ?_, ?_⟩
    · rw [show c * (m * n) = (c * n) * m by rw [Int.mul_comm m n, Int.mul_assoc], J_add hm h1]
    · rw [show c * (m * n) = (c * m) * n by rw [Int.mul_assoc], J_add hn g1]
  have big : ∀ c : Int, 0 ≤ c → c ≤ c * (m * n) := fun c hc => by
    have := Int.mul_le_mul_of_nonneg_left (show 1 ≤ m * n by omega) hc
    omega
  have odd : ∀ c : Int, (a + c * (m * n)) % 2 = (a + c) % 2 := fun c => by
    have : c * (m * n) % 2 = c % 2 := by rw [Int.mul_emod, h2]; omega
    omega
  by_cases ha : a % 2 = 1
  · obtain ⟨e1, e2, e3⟩ := up (2 * a.natAbs)
    have := big (2 * a.natAbs) (by omega)
    have o := odd (2 * a.natAbs)
    rw [e1, e2, e3, key _ (by omega) (by omega)]
  · obtain ⟨e1, e2, e3⟩ := up (2 * a.natAbs + 1)
    have := big (2 * a.natAbs + 1) (by omega)
    have o := odd (2 * a.natAbs + 1)
    rw [e1, e2, e3, key _ (by omega) (by omega)]
theorem J_zero_iff {a m : Int} : J a m = 0 ↔ Int.gcd a m ≠ 1 := by
  constructor
  · intro h g
    rcases J_pm g with q | q <;> omega
  · exact J_no
instance J_sz {a m : Int} : Sz 4 (J a m) := ⟨by
    unfold J sg
    split
    · split <;> exact fits_of (by decide)
    · exact fits_of (by decide)⟩

/-! ### the twelve of two numbers -/
def sqN (n : Nat) : Int := sumN (fun k => (k : Int) * k) n
theorem sqN_eq : ∀ n : Nat, 6 * sqN n = ((n : Int) - 1) * n * (2 * n - 1)
  | 0 => rfl
  | n + 1 => by
    have ih := sqN_eq n
    show 6 * (sqN n + (n : Int) * n) = (((n : Int) + 1) - 1) * ((n : Int) + 1) * (2 * ((n : Int) + 1) - 1)
    generalize (n : Int) = x at *
    grind
def kf (a : Int) (m : Nat) : Int := sumN (fun k => (k : Int) * (a * k / m)) m
def Dd (a m : Int) : Int := 2 * a * (m - 1) * (2 * m - 1) - 3 * m * (m - 1) - 12 * kf a m.toNat
theorem kf_add (a c : Int) {m : Nat} (hm : 0 < m) : kf (a + c * m) m = kf a m + c * sqN m := by
  unfold kf sqN
  rw [← sumN_mul, ← sumN_add]
  refine sumN_congr fun k _ => ?_
  have e : (a + c * m) * (k : Int) = a * k + (c * k) * m := by grind
  rw [e, Int.add_mul_ediv_right _ _ (by omega)]
  grind
theorem Dd_add {a m c : Int} (hm : 0 < m) : Dd (a + c * m) m = Dd a m := by
  obtain ⟨M, rfl⟩ := Int.eq_ofNat_of_zero_le (show 0 ≤ m by omega)
  have h := sqN_eq M
  unfold Dd
  rw [show ((M : Nat) : Int).toNat = M from rfl, kf_add a c (by omega)]
  generalize (M : Int) = x at *
  grind
theorem Dd_emod {a m : Int} (hm : 0 < m) : Dd (a % m) m = Dd a m := by
  have h := Int.emod_add_mul_ediv a m
  have e : a = a % m + a / m * m := by rw [Int.mul_comm]; omega
  conv => rhs; rw [e]
  rw [Dd_add hm]
theorem Dd_one (a : Int) : Dd a 1 = 0 := by
  unfold Dd kf
  simp [sumN]
/-! ### the rests are all numbers -/
theorem rest_perm {a : Int} {m : Nat} (hm : 0 < m) (hg : Int.gcd a m = 1) (f : Nat → Int) : sumN (fun k => f (a * k % m).toNat) m = sumN f m := by
  refine sumN_perm (g := fun k => (a * (k : Int) % m).toNat) (fun k _ => ?_) (fun i j hi hj h => ?_) f
  · have h1 := Int.emod_nonneg (a * (k : Int)) (show (m : Int) ≠ 0 by omega)
    have h2 := Int.emod_lt_of_pos (a * (k : Int)) (show 0 < (m : Int) by omega)
    omega
  · have i1 := Int.emod_nonneg (a * (i : Int)) (show (m : Int) ≠ 0 by omega)
    have j1 := Int.emod_nonneg (a * (j : Int)) (show (m : Int) ≠ 0 by omega)
    have e : a * (i : Int) % m = a * (j : Int) % m := by omega
    have di := Int.emod_add_mul_ediv (a * (i : Int)) m
    have dj := Int.emod_add_mul_ediv (a * (j : Int)) m
    have dv : (m : Int) ∣ a * ((i : Int) - j) := ⟨a * (i : Int) / m - a * (j : Int) / m, by rw [Int.mul_sub, Int.mul_sub]; omega⟩
    have := small_dvd (cop_dvd (by rw [Int.gcd_comm]; exact hg) dv) (by omega) (by omega)
    omega
theorem sum_rest {a : Int} {m : Nat} (hm : 0 < m) (hg : Int.gcd a m = 1) (f : Int → Int) : sumN (fun k => f (a * k % m)) m = sumN (fun k => f k) m := by
  rw [← rest_perm hm hg (fun k => f k)]
  refine sumN_congr fun k _ => ?_
  have h1 := Int.emod_nonneg (a * (k : Int)) (show (m : Int) ≠ 0 by omega)
  show f _ = f _
  congr 1
  omega
theorem sum_flo {a : Int} {m : Nat} (hm : 0 < m) (hg : Int.gcd a m = 1) : 2 * sumN (fun k => a * (k : Int) / m) m = (a - 1) * (m - 1) := by
  have h := sum_rest hm hg (fun x => x)
  have h1 := sumN_id m
  have e : sumN (fun k => a * (k : Int) % m) m = a * sumN (fun k => (k : Int)) m - m * sumN (fun k => a * (k : Int) / m) m := by
    rw [← sumN_mul, ← sumN_mul, ← sumN_sub]
    refine sumN_congr fun k _ => ?_
    have := Int.emod_add_mul_ediv (a * (k : Int)) m
    omega
  have h : sumN (fun k => a * (k : Int) % m) m = sumN (fun k => (k : Int)) m := h
  rw [e] at h
  generalize sumN (fun k => a * (k : Int) / m) m = F at *
  generalize sumN (fun k => (k : Int)) m = T at *
  have hm0 : (m : Int) ≠ 0 := by omega
  generalize (m : Int) = x at *
  have : x * (2 * F) = x * ((a - 1) * (x - 1)) := by grind
  exact Int.eq_of_mul_eq_mul_left hm0 this
theorem sum_sq {a : Int} {m : Nat} (hm : 0 < m) (hg : Int.gcd a m = 1) : a * a * sqN m - 2 * a * m * kf a m + m * m * sumN (fun k => (a * (k : Int) / m) * (a * (k : Int) / m)) m = sqN m := by
  have h := sum_rest hm hg (fun x => x * x)
  have e : sumN (fun k => (a * (k : Int) % m) * (a * (k : Int) % m)) m = a * a * sqN m - 2 * a * m * kf a m + m * m * sumN (fun k => (a * (k : Int) / m) * (a * (k : Int) / m)) m := by
    unfold sqN kf
    rw [← sumN_mul, ← sumN_mul, ← sumN_mul, ← sumN_sub, ← sumN_add]
    refine sumN_congr fun k _ => ?_
    have := Int.emod_add_mul_ediv (a * (k : Int)) m
    have e : a * (k : Int) % m = a * k - m * (a * (k : Int) / m) := by omega
    rw [e]
    generalize a * (k : Int) / m = z
    grind
  rw [← e]
  exact h
theorem odd_sum {v m : Int} (hm : 0 < m) (hv : 0 ≤ v) : ∀ {A : Nat}, sumN (fun j => (2 * (j : Int) + 1) * ind (m * ((j : Int) + 1) ≤ v)) A = if v / m ≤ A then (v / m) * (v / m) else (A : Int) * A
  | 0 => by
    have := Int.ediv_nonneg hv (show 0 ≤ m by omega)
    show (0 : Int) = _
    split
    · rw [show v / m = 0 by omega]; rfl
    · rfl
  | A + 1 => by
    show sumN _ A + (2 * (A : Int) + 1) * ind (m * ((A : Int) + 1) ≤ v) = _
    rw [odd_sum hm hv]
    have e : m * ((A : Int) + 1) ≤ v ↔ (A : Int) + 1 ≤ v / m := by
      rw [Int.mul_comm, Int.le_ediv_iff_mul_le hm]
    unfold ind
    rw [show (if m * ((A : Int) + 1) ≤ v then (1 : Int) else 0) = if (A : Int) + 1 ≤ v / m then 1 else 0 by simp only [e]]
    have e2 : ((A + 1 : Nat) : Int) = (A : Int) + 1 := rfl
    rw [e2]
    generalize v / m = q
    generalize (A : Int) = x
    split <;> split <;> split <;> first | omega | skip
    · rw [show q = x + 1 by omega]; grind
    · grind
theorem cnt_above {a v : Int} (ha : 0 < a) (hv : 0 < v) (hd : ¬ a ∣ v) : ∀ m : Nat, sumN (fun k => ind (v ≤ a * (k : Int))) m = if (m : Int) ≤ v / a then 0 else m - 1 - v / a
  | 0 => by
    have := Int.ediv_nonneg (show 0 ≤ v by omega) (show 0 ≤ a by omega)
    show (0 : Int) = _
    rw [if_pos (by omega)]
  | m + 1 => by
    show sumN _ m + ind (v ≤ a * (m : Int)) = _
    rw [cnt_above ha hv hd m]
    have e : v ≤ a * (m : Int) ↔ v / a < m := by
      rw [Int.ediv_lt_iff_lt_mul ha, Int.mul_comm]
      constructor
      · intro h
        rcases Int.lt_or_eq_of_le h with q | q
        · exact q
        · exact absurd ⟨(m : Int), by rw [q, Int.mul_comm]⟩ hd
      · intro h; omega
    unfold ind
    rw [show (if v ≤ a * (m : Int) then (1 : Int) else 0) = if v / a < m then 1 else 0 by simp only [e]]
    have e2 : ((m + 1 : Nat) : Int) = (m : Int) + 1 := rfl
    rw [e2]
    split <;> split <;> split <;> omega
theorem sum_fsq {a m : Nat} (ha : 0 < a) (hm : 0 < m) (hg : Int.gcd a m = 1) : sumN (fun k => ((a : Int) * (k : Int) / m) * ((a : Int) * (k : Int) / m)) m = ((m : Int) - 1) * (a - 1) * (a - 1) - 2 * kf m a + sumN (fun i => (m : Int) * (i : Int) / a) a := by
  obtain ⟨A, rfl⟩ : ∃ A, a = A + 1 := ⟨a - 1, by omega⟩
  have eA : ((A + 1 : Nat) : Int) = (A : Int) + 1 := rfl
  have h1 : sumN (fun k => (((A + 1 : Nat) : Int) * (k : Int) / m) * (((A + 1 : Nat) : Int) * (k : Int) / m)) m = sumN (fun k => sumN (fun j => (2 * (j : Int) + 1) * ind ((m : Int) * ((j : Int) + 1) ≤ ((A + 1 : Nat) : Int) * (k : Int))) A) m := by
    refine sumN_congr fun k hk => ?_
    have hv : 0 ≤ ((A + 1 : Nat) : Int) * (k : Int) := Int.mul_nonneg (by omega) (by omega)
    rw [odd_sum (by omega) hv, if_pos]
    have : ((A + 1 : Nat) : Int) * (k : Int) / m < (A : Int) + 1 := by
      rw [Int.ediv_lt_iff_lt_mul (by omega)]
      exact Int.mul_lt_mul_of_pos_left (by omega) (by omega)
    omega
  rw [h1, sumN_swap (fun k j => (2 * (j : Int) + 1) * ind ((m : Int) * ((j : Int) + 1) ≤ ((A + 1 : Nat) : Int) * (k : Int)))]
  have h2 : sumN (fun j => sumN (fun k => (2 * (j : Int) + 1) * ind ((m : Int) * ((j : Int) + 1) ≤ ((A + 1 : Nat) : Int) * (k : Int))) m) A = sumN (fun j => (2 * (j : Int) + 1) * ((m : Int) - 1 - (m : Int) * ((j : Int) + 1) / ((A + 1 : Nat) : Int))) A := by
    refine sumN_congr fun j hj => ?_
    have pos : 0 < (m : Int) * ((j : Int) + 1) := Int.mul_pos (by omega) (by omega)
    have nd : ¬ ((A + 1 : Nat) : Int) ∣ (m : Int) * ((j : Int) + 1) := fun z => by
      have := small_dvd (cop_dvd hg z) (by omega) (by omega)
      omega
    have lt : (m : Int) * ((j : Int) + 1) / ((A + 1 : Nat) : Int) < m := by
      rw [Int.ediv_lt_iff_lt_mul (by omega)]
      exact Int.mul_lt_mul_of_pos_left (by omega) (by omega)
    rw [sumN_mul, cnt_above (by omega) pos nd, if_neg (by omega)]
  rw [h2]
  unfold kf
  rw [sumN_front, sumN_front]
  have h3 : sumN (fun j => (2 * (j : Int) + 1) * ((m : Int) - 1 - (m : Int) * ((j : Int) + 1) / ((A + 1 : Nat) : Int))) A = ((m : Int) - 1) * sumN (fun j => 2 * (j : Int) + 1) A - 2 * sumN (fun j => (((j + 1 : Nat) : Int)) * ((m : Int) * ((j + 1 : Nat) : Int) / ((A + 1 : Nat) : Int))) A + sumN (fun j => (m : Int) * ((j + 1 : Nat) : Int) / ((A + 1 : Nat) : Int)) A := by
    rw [← sumN_mul, ← sumN_mul, ← sumN_sub, ← sumN_add]
    refine sumN_congr fun j _ => ?_
    have : ((j + 1 : Nat) : Int) = (j : Int) + 1 := rfl
    rw [this]
    generalize (m : Int) * ((j : Int) + 1) / ((A + 1 : Nat) : Int) = q
    grind
  have h4 : ∀ A : Nat, sumN (fun j => 2 * (j : Int) + 1) A = (A : Int) * A := by
    intro A
    induction A with
    | zero => rfl
    | succ A ih =>
      show sumN _ A + (2 * (A : Int) + 1) = ((A : Int) + 1) * ((A : Int) + 1)
      rw [ih]; grind
  rw [h3, h4]
  have e6 : (((A + 1 : Nat) : Int) - 1) = A := by omega
  rw [e6]
  simp [Int.mul_assoc]
theorem Dd_turn {a m : Int} (ha : 0 < a) (hm : 0 < m) (hg : Int.gcd a m = 1) : a * Dd a m + m * Dd m a = a * a + m * m + 1 - 3 * a * m := by
  obtain ⟨A, rfl⟩ := Int.eq_ofNat_of_zero_le (show 0 ≤ a by omega)
  obtain ⟨M, rfl⟩ := Int.eq_ofNat_of_zero_le (show 0 ≤ m by omega)
  have h1 := sum_sq (a := A) (m := M) (by omega) hg
  have h2 := sum_fsq (a := A) (m := M) (by omega) (by omega) hg
  have h3 := sum_flo (a := M) (m := A) (by omega) (by rw [Int.gcd_comm]; exact hg)
  have h4 := sqN_eq M
  rw [h2] at h1
  unfold Dd
  rw [show ((M : Nat) : Int).toNat = M from rfl, show ((A : Nat) : Int).toNat = A from rfl]
  generalize sumN (fun i => (M : Int) * (i : Int) / A) A = H at *
  generalize kf A M = F at *
  generalize kf M A = G at *
  generalize sqN M = T at *
  have hm0 : (M : Int) ≠ 0 := by omega
  generalize (A : Int) = a at *
  generalize (M : Int) = m at *
  have e1 := Int.sub_eq_zero.mpr h1
  have e3 := Int.sub_eq_zero.mpr h3
  have e4 := Int.sub_eq_zero.mpr h4
  clear h1 h2 h3 h4
  have key : m * (12 * (a * F + m * G)) = m * ((a * a - 1) * (m - 1) * (2 * m - 1) + 6 * m * (m - 1) * (a - 1) * (a - 1) + 3 * m * (m - 1) * (a - 1)) := by
    have id : m * (12 * (a * F + m * G)) - m * ((a * a - 1) * (m - 1) * (2 * m - 1) + 6 * m * (m - 1) * (a - 1) * (a - 1) + 3 * m * (m - 1) * (a - 1)) = -6 * (a * a * T - 2 * a * m * F + m * m * ((m - 1) * (a - 1) * (a - 1) - 2 * G + H) - T) + (a * a - 1) * (6 * T - (m - 1) * m * (2 * m - 1)) + 3 * m * m * (2 * H - (m - 1) * (a - 1)) := by clear e1 e3 e4; grind
    rw [e1, e3, e4] at id
    apply Int.sub_eq_zero.mp
    rw [id]
    simp
  have key2 := Int.eq_of_mul_eq_mul_left hm0 key
  grind

/-! ### by Euclid's steps -/
theorem Dd_zero_one {a m : Int} (h : Int.gcd a m = 1) (h0 : a = 0) (hm : 0 < m) : Dd a m = 0 := by
  subst h0
  rw [Int.gcd_zero_left] at h
  rw [show m = 1 by omega, Dd_one]
def er (a m : Int) : List (Int × Int) := if h : 0 < a then (a, m) :: er (m % a) a else []
termination_by a.toNat
decreasing_by
  have := Int.emod_lt_of_pos m h
  omega
theorem er_eq (a m : Int) : er a m = if 0 < a then (a, m) :: er (m % a) a else [] := by
  rw [er]
  split <;> rfl
def erV : List (Int × Int) → Int
  | [] => 0
  | (a, m) :: _ => Dd a m
/-- what a list of rows keeps -/
def Ch (k : Nat) : List (Int × Int) → Prop
  | [] => True
  | (a, m) :: L => (0 < a ∧ a < m ∧ fits k a ∧ fits k m ∧ Int.gcd a m = 1 ∧ a * Dd a m = a * a + m * m + 1 - 3 * a * m - m * erV L) ∧ Ch k L
theorem er_val {a m : Int} (h : Int.gcd a m = 1) (h0 : 0 ≤ a) (hm : 0 < m) : erV (er a m) = Dd a m := by
  rw [er_eq]
  split
  · rfl
  · exact (Dd_zero_one h (by omega) hm).symm
theorem er_ch {k : Nat} : ∀ (n : Nat) (a m : Int), a.toNat ≤ n → 0 ≤ a → a < m → fits k a → fits k m → Int.gcd a m = 1 → Ch k (er a m)
  | n, a, m, hn, h0, ham, fa, fm, hg => by
    have hm : 0 < m := by omega
    rw [er_eq]
    split
    case isFalse => trivial
    rename_i ha
    have q0 := Int.emod_nonneg m (show a ≠ 0 by omega)
    have q1 := Int.emod_lt_of_pos m ha
    have g2 : Int.gcd (m % a) a = 1 := by
      rw [← fmod_pos ha, Int.gcd_comm, gcd_fmod, Int.gcd_comm]
      exact hg
    match n, hn with
    | 0, hn => omega
    | n + 1, hn =>
      refine ⟨⟨ha, ham, fa, fm, hg, ?_⟩, er_ch n (m % a) a (by omega) q0 q1 (fits_nat fa q0 (by omega)) fa g2⟩
      rw [er_val g2 q0 ha, Dd_emod ha]
      have := Dd_turn ha hm hg
      omega
theorem Ch.drop {k : Nat} : ∀ {L : List (Int × Int)} (i : Nat), Ch k L → Ch k (L.drop i)
  | [], i, _ => by rw [List.drop_nil]; trivial
  | x :: L, 0, h => h
  | (a, m) :: L, i + 1, h => Ch.drop i h.2
theorem er_len {k : Nat} : ∀ (n : Nat) (a m : Int), a.toNat ≤ n → 0 < a → (er a m).length = (cfL m a).length
  | 0, a, m, hn, ha => by omega
  | n + 1, a, m, hn, ha => by
    have q0 := Int.emod_nonneg m (show a ≠ 0 by omega)
    have q1 := Int.emod_lt_of_pos m ha
    rw [er_eq, if_pos ha, cfL_eq ha, List.length_cons, List.length_cons]
    by_cases h : m % a = 0
    · rw [if_pos h, er_eq, if_neg (by omega)]
    · rw [if_neg h, er_len (k := k) n (m % a) a (by omega) (by omega)]
theorem er_len_le {k : Nat} {a m : Int} (fa : fits k a) : (er a m).length ≤ 2 * k + 1 := by
  by_cases h : 0 < a
  · rw [er_len (k := k) _ a m (Nat.le_refl _) h]
    exact cf_len h fa
  · rw [er_eq, if_neg h]; simp
theorem kf_bound {a : Int} (h0 : 0 ≤ a) : ∀ {m n : Nat}, 0 < n → a < n → m ≤ n → 0 ≤ sumN (fun k => (k : Int) * (a * k / n)) m ∧ sumN (fun k => (k : Int) * (a * k / n)) m ≤ m * ((n : Int) * n)
  | 0, n, _, _, _ => by simp [sumN]
  | m + 1, n, hn, han, hmn => by
    have ih := kf_bound h0 (m := m) hn han (by omega)
    have p0 : 0 ≤ a * (m : Int) / n := Int.ediv_nonneg (Int.mul_nonneg h0 (by omega)) (by omega)
    have p1 : a * (m : Int) / n ≤ n := by
      have : a * (m : Int) / n < n + 1 := by
        rw [Int.ediv_lt_iff_lt_mul (by omega)]
        have q1 : a * (m : Int) ≤ n * n := Int.le_trans (Int.mul_le_mul_of_nonneg_right (by omega : a ≤ n) (by omega)) (Int.mul_le_mul_of_nonneg_left (by omega) (by omega))
        rw [Int.add_mul]
        omega
      omega
    have p2 : 0 ≤ (m : Int) * (a * (m : Int) / n) := Int.mul_nonneg (by omega) p0
    have p3 : (m : Int) * (a * (m : Int) / n) ≤ (n : Int) * n := Int.le_trans (Int.mul_le_mul_of_nonneg_right (by omega : (m : Int) ≤ n) p0) (Int.mul_le_mul_of_nonneg_left p1 (by omega))
    show 0 ≤ sumN _ m + (m : Int) * (a * (m : Int) / n) ∧ sumN _ m + (m : Int) * (a * (m : Int) / n) ≤ ((m : Int) + 1) * ((n : Int) * n)
    rw [Int.add_mul, Int.one_mul]
    omega
theorem Dd_fits {k : Nat} {a m : Int} (h0 : 0 ≤ a) (ham : a < m) (fm : fits k m) : fits (3 * k + 10) (Dd a m) := by
  obtain ⟨M, rfl⟩ := Int.eq_ofNat_of_zero_le (show 0 ≤ m by omega)
  have b := kf_bound h0 (m := M) (n := M) (by omega) ham (Nat.le_refl _)
  have f1 : M < 2 ^ k := fm
  have f2 : (M : Int) * ((M : Int) * M) < 2 ^ (3 * k) := by
    have : M * (M * M) < 2 ^ (3 * k) := by
      have e : 2 ^ (3 * k) = 2 ^ k * (2 ^ k * 2 ^ k) := by rw [← Nat.pow_add, ← Nat.pow_add]; congr 1; omega
      rw [e]
      exact Nat.mul_lt_mul'' f1 (Nat.mul_lt_mul'' f1 f1)
    exact_mod_cast this
  have f3 : 0 < (M : Int) := by omega
  have g1 : (M : Int) * 1 ≤ (M : Int) * M := Int.mul_le_mul_of_nonneg_left (by omega) (by omega)
  have g2 : 1 * ((M : Int) * M) ≤ M * ((M : Int) * M) := Int.mul_le_mul_of_nonneg_right (by omega) (Int.mul_nonneg (by omega) (by omega))
  have g3 : a * ((M : Int) * M) ≤ M * ((M : Int) * M) := Int.mul_le_mul_of_nonneg_right (by omega) (Int.mul_nonneg (by omega) (by omega))
  have g4 : 0 ≤ a * ((M : Int) * M) := Int.mul_nonneg h0 (Int.mul_nonneg (by omega) (by omega))
  have g5 : a * (M : Int) ≤ M * M := Int.mul_le_mul_of_nonneg_right (by omega) (by omega)
  have g6 : 0 ≤ a * (M : Int) := Int.mul_nonneg h0 (by omega)
  have e : Dd a M = 4 * (a * ((M : Int) * M)) - 6 * (a * M) + 2 * a - 3 * (M * M) + 3 * M - 12 * kf a M := by
    unfold Dd
    rw [show ((M : Nat) : Int).toNat = M from rfl]
    generalize kf a M = F
    generalize (M : Int) = m
    grind
  unfold kf at e
  unfold fits
  have e2 : (2 : Int) ^ (3 * k + 10) = 1024 * 2 ^ (3 * k) := by rw [Int.pow_add, Int.mul_comm]; rfl
  have e3 : ((2 ^ (3 * k + 10) : Nat) : Int) = (2 : Int) ^ (3 * k + 10) := by simp
  generalize (2 : Int) ^ (3 * k) = Z at *
  omega
theorem Ch.fits {k : Nat} {L : List (Int × Int)} (h : Ch k L) : Dv.fits (3 * k + 10) (erV L) := by
  match L, h with
  | [], _ => exact fits_small (by decide) (by omega)
  | (a, m) :: L, h => exact Dd_fits (by have := h.1.1; omega) h.1.2.1 h.1.2.2.2.1
/-! ### the twelve by eight -/
theorem sumN_split (h : Nat → Int) : ∀ M : Nat, sumN h (2 * M + 1) = sumN (fun i => h (2 * i)) (M + 1) + sumN (fun i => h (2 * i + 1)) M
  | 0 => by simp [sumN]
  | M + 1 => by
    have ih := sumN_split h M
    show sumN h (2 * M + 1) + h (2 * M + 1) + h (2 * M + 2) = sumN (fun i => h (2 * i)) (M + 1) + h (2 * (M + 1)) + (sumN (fun i => h (2 * i + 1)) M + h (2 * M + 1))
    rw [ih, show 2 * (M + 1) = 2 * M + 2 from rfl]
    omega
theorem kf_two {a : Int} {M : Nat} (hg : Int.gcd a ((2 * M + 1 : Nat) : Int) = 1) : kf a (2 * M + 1) % 2 = ((M : Int) * (a - 1) - pts (2 * a) ((2 * M + 1 : Nat) : Int) M) % 2 := by
  unfold kf
  rw [sumN_split]
  have h1 : sumN (fun i => (((2 * i : Nat)) : Int) * (a * ((2 * i : Nat) : Int) / ((2 * M + 1 : Nat) : Int))) (M + 1) % 2 = sumN (fun _ => 0) (M + 1) % 2 := sumN_mod fun k _ => by
    rw [Int.mul_emod, show ((2 * k : Nat) : Int) % 2 = 0 by omega]; simp
  rw [sumN_const] at h1
  have h2 : sumN (fun i => ((2 * i + 1 : Nat) : Int) * (a * ((2 * i + 1 : Nat) : Int) / ((2 * M + 1 : Nat) : Int))) M % 2 = sumN (fun i => (a - 1) - 2 * a * (((M - 1 - i : Nat) : Int) + 1) / ((2 * M + 1 : Nat) : Int)) M % 2 := sumN_mod fun k hk => by
    have e1 : ((2 * k + 1 : Nat) : Int) = ((2 * M + 1 : Nat) : Int) - 2 * (((M - 1 - k : Nat) : Int) + 1) := by omega
    have e2 : a * ((2 * k + 1 : Nat) : Int) = -(2 * a * (((M - 1 - k : Nat) : Int) + 1)) + a * ((2 * M + 1 : Nat) : Int) := by
      rw [e1]
      generalize ((M - 1 - k : Nat) : Int) = z
      grind
    have nd : ¬ ((2 * M + 1 : Nat) : Int) ∣ 2 * a * (((M - 1 - k : Nat) : Int) + 1) := fun z => by
      have z2 : ((2 * M + 1 : Nat) : Int) ∣ a * (2 * (((M - 1 - k : Nat) : Int) + 1)) := by
        rw [Int.mul_left_comm, ← Int.mul_assoc]; exact z
      have := small_dvd (cop_dvd (by rw [Int.gcd_comm]; exact hg) z2) (by omega) (by omega)
      omega
    have fl : a * ((2 * k + 1 : Nat) : Int) / ((2 * M + 1 : Nat) : Int) = (a - 1) - 2 * a * (((M - 1 - k : Nat) : Int) + 1) / ((2 * M + 1 : Nat) : Int) := by
      rw [e2, Int.add_mul_ediv_right _ _ (by omega)]
      generalize 2 * a * (((M - 1 - k : Nat) : Int) + 1) = v at *
      have q1 := Int.emod_nonneg v (show ((2 * M + 1 : Nat) : Int) ≠ 0 by omega)
      have q2 := Int.emod_lt_of_pos v (show 0 < ((2 * M + 1 : Nat) : Int) by omega)
      have q3 := Int.emod_add_mul_ediv v ((2 * M + 1 : Nat) : Int)
      have q4 : v % ((2 * M + 1 : Nat) : Int) ≠ 0 := fun z => nd (Int.dvd_of_emod_eq_zero z)
      have e4 : ((2 * M + 1 : Nat) : Int) * (-(v / ((2 * M + 1 : Nat) : Int)) - 1) = - (((2 * M + 1 : Nat) : Int) * (v / ((2 * M + 1 : Nat) : Int))) - ((2 * M + 1 : Nat) : Int) := by rw [Int.mul_sub, Int.mul_neg, Int.mul_one]
      have q := (Int.ediv_emod_unique (a := -v) (b := ((2 * M + 1 : Nat) : Int)) (r := ((2 * M + 1 : Nat) : Int) - v % ((2 * M + 1 : Nat) : Int)) (q := -(v / ((2 * M + 1 : Nat) : Int)) - 1) (by omega)).mpr ⟨by omega, by omega, by omega⟩
      rw [q.1]
      omega
    rw [fl, Int.mul_emod, show ((2 * k + 1 : Nat) : Int) % 2 = 1 by omega]
    omega
  have h3 : sumN (fun i => (a - 1) - 2 * a * (((M - 1 - i : Nat) : Int) + 1) / ((2 * M + 1 : Nat) : Int)) M = (M : Int) * (a - 1) - pts (2 * a) ((2 * M + 1 : Nat) : Int) M := by
    rw [sumN_sub, sumN_const, Int.mul_comm (a - 1)]
    congr 1
    exact sumN_perm (g := fun i => M - 1 - i) (fun k hk => by omega) (fun i j hi hj h => by omega) (fun i => 2 * a * ((i : Int) + 1) / ((2 * M + 1 : Nat) : Int))
  rw [h3] at h2
  omega
theorem Dd_eight {a m : Int} (hm : 0 < m) (h1 : m % 2 = 1) (hg : Int.gcd a m = 1) : (Dd a m - m - 1) % 8 = if J a m = 1 then 6 else 2 := by
  obtain ⟨M, rfl⟩ : ∃ M : Nat, m = ((2 * M + 1 : Nat) : Int) := ⟨((m - 1) / 2).toNat, by omega⟩
  have hk := kf_two hg
  have ho : ov a ((2 * M + 1 : Nat) : Int) = pts (2 * a) ((2 * M + 1 : Nat) : Int) M - 2 * pt a ((2 * M + 1 : Nat) : Int) := by
    unfold ov
    congr 1
    unfold pt
    congr 1
    omega
  have hj : J a ((2 * M + 1 : Nat) : Int) = sg (ov a ((2 * M + 1 : Nat) : Int)) := by unfold J; rw [if_pos hg]
  rw [hj]
  unfold Dd
  rw [show (((2 * M + 1 : Nat)) : Int).toNat = 2 * M + 1 from rfl]
  generalize ov a ((2 * M + 1 : Nat) : Int) = o at *
  generalize pt a ((2 * M + 1 : Nat) : Int) = w at *
  generalize pts (2 * a) ((2 * M + 1 : Nat) : Int) M = u at *
  generalize kf a (2 * M + 1) = F at *
  have eM : ((2 * M + 1 : Nat) : Int) = 2 * (M : Int) + 1 := rfl
  rw [eM]
  generalize (M : Int) = x at *
  obtain ⟨t, ht⟩ : ∃ t : Int, F = x * (a - 1) + o + 2 * t := by
    refine ⟨(F - x * (a - 1) - o) / 2, ?_⟩
    omega
  obtain ⟨y, hy⟩ : ∃ y : Int, x * (3 * x - 1) = 2 * y := by
    rcases (by omega : x % 2 = 0 ∨ x % 2 = 1) with q | q
    · refine ⟨(x / 2) * (3 * x - 1), ?_⟩
      rw [← Int.mul_assoc]; congr 1; omega
    · refine ⟨x * ((3 * x - 1) / 2), ?_⟩
      rw [Int.mul_left_comm]; congr 1; omega
  have e : 2 * a * (2 * x + 1 - 1) * (2 * (2 * x + 1) - 1) - 3 * (2 * x + 1) * (2 * x + 1 - 1) - 12 * F - (2 * x + 1) - 1 = 8 * (2 * a * x * x - a * x - 3 * t - y) - 12 * o - 2 := by
    have e2 : 2 * a * (2 * x + 1 - 1) * (2 * (2 * x + 1) - 1) - 3 * (2 * x + 1) * (2 * x + 1 - 1) - 12 * (x * (a - 1) + o + 2 * t) - (2 * x + 1) - 1 = 8 * (2 * a * x * x - a * x - 3 * t) - 4 * (x * (3 * x - 1)) - 12 * o - 2 := by clear ht hy hk ho hj; grind
    rw [ht, e2, hy]
    omega
  rw [e]
  unfold sg
  split
  · rw [if_pos (by decide)]; omega
  · rw [if_neg (by decide)]; omega

/-! ### half rows -/
theorem srt_insP (x : Int) : ∀ ys : List Int, (insS x ys).Perm (x :: ys)
  | [] => .refl _
  | y :: r => by
    simp only [insS]
    split
    · exact .refl _
    · exact ((srt_insP x r).cons y).trans (.swap x y r)
theorem srt_perm : ∀ ys : List Int, (sortI ys).Perm ys
  | [] => .refl _
  | y :: r => (srt_insP y (sortI r)).trans ((srt_perm r).cons y)
theorem srt_ins (x : Int) : ∀ ys : List Int, ys.Pairwise (· ≤ ·) → (insS x ys).Pairwise (· ≤ ·)
  | [], _ => List.pairwise_singleton _ _
  | y :: r, h => by
    simp only [insS]
    have h' := List.pairwise_cons.mp h
    split
    · rename_i c
      refine List.pairwise_cons.mpr ⟨fun z hz => ?_, h⟩
      rcases List.mem_cons.mp hz with rfl | hz
      · exact c
      · exact Int.le_trans c (h'.1 z hz)
    · rename_i c
      refine List.pairwise_cons.mpr ⟨fun z hz => ?_, srt_ins x r h'.2⟩
      rcases List.mem_cons.mp ((srt_insP x r).mem_iff.mp hz) with rfl | hz
      · omega
      · exact h'.1 z hz
theorem srt_sorted : ∀ ys : List Int, (sortI ys).Pairwise (· ≤ ·)
  | [] => .nil
  | y :: r => srt_ins y _ (srt_sorted r)
theorem srt_eq {xs ys : List Int} (p : ys.Perm xs) (h : ys.Pairwise (· ≤ ·)) : sortI xs = ys :=
  (List.Perm.eq_of_pairwise (fun _ _ _ _ h1 h2 => Int.le_antisymm h1 h2) h (srt_sorted xs) (p.trans (srt_perm xs).symm)).symm
theorem map_nodup {α β : Type} {f : α → β} : ∀ {l : List α}, (∀ x ∈ l, ∀ y ∈ l, f x = f y → x = y) → l.Nodup → (l.map f).Nodup
  | [], _, _ => .nil
  | a :: l, hf, h => by
    have h' := List.nodup_cons.mp h
    refine List.nodup_cons.mpr ⟨fun hm => ?_, map_nodup (fun x hx y hy => hf x (List.mem_cons_of_mem _ hx) y (List.mem_cons_of_mem _ hy)) h'.2⟩
    obtain ⟨b, hb, e⟩ := List.mem_map.mp hm
    have := hf b (List.mem_cons_of_mem _ hb) a (List.mem_cons_self ..) e
    subst this
    exact h'.1 hb
theorem map_perm {n : Nat} {g : Nat → Nat} (h1 : ∀ k, k < n → g k < n) (h2 : ∀ i j, i < n → j < n → g i = g j → i = j) : ((List.range n).map g).Perm (List.range n) := by
  refine perm_range n _ (map_nodup (fun x hx y hy e => h2 x y (List.mem_range.mp hx) (List.mem_range.mp hy) e) List.nodup_range) ?_ (by simp)
  intro x hx
  obtain ⟨k, hk, rfl⟩ := List.mem_map.mp hx
  exact h1 k (List.mem_range.mp hk)
theorem sorted_ints (n : Nat) : ((List.range n).map fun (k : Nat) => 1 + (k : Int)).Pairwise (· ≤ ·) := by
  rw [List.pairwise_map]
  exact List.pairwise_lt_range.imp fun h => by omega
/-- the near of a half row -/
def nr (a m : Int) (k : Nat) : Int := if 2 * (a * (1 + (k : Int)) % m) < m then a * (1 + (k : Int)) % m else m - a * (1 + (k : Int)) % m
theorem nr_la {a m : Int} {k : Nat} (hm : 0 < m) (h1 : m % 2 = 1) (hg : Int.gcd a m = 1) (hk : k < ((m - 1) / 2).toNat) : nr a m k = 1 + (la a m k : Int) := by
  have e := la_val hm h1 hg hk
  rw [Int.add_comm (la a m k : Int) 1] at e
  rw [e]
  unfold nr
  rw [Int.add_comm (k : Int) 1]
  by_cases q : 2 * (a * (1 + (k : Int)) % m) < m
  · rw [if_pos q, if_neg (by omega)]
  · rw [if_neg q, if_pos (by omega)]
theorem nears_sorted {a m : Int} (hm : 0 < m) (h1 : m % 2 = 1) (hg : Int.gcd a m = 1) : sortI ((List.range ((m - 1) / 2).toNat).map (nr a m)) = (List.range ((m - 1) / 2).toNat).map fun (k : Nat) => 1 + (k : Int) := by
  refine srt_eq ?_ (sorted_ints _)
  have e : (List.range ((m - 1) / 2).toNat).map (nr a m) = ((List.range ((m - 1) / 2).toNat).map (la a m)).map fun (k : Nat) => 1 + (k : Int) := by
    rw [List.map_map]
    exact List.map_congr_left fun k hk => nr_la hm h1 hg (List.mem_range.mp hk)
  rw [e]
  exact ((map_perm (fun k hk => la_lt hm h1 hg hk) (fun i j hi hj => la_inj hm h1 hg hi hj)).map _).symm
def hrD (a m : Int) (k : Nat) : D := if 2 * (a * (1 + (k : Int)) % m) < m then .tup [.int (1 + (k : Int)), .int (a * (1 + (k : Int)) % m), .int 1] else .tup [.int (1 + (k : Int)), .int (m - a * (1 + (k : Int)) % m), .int (-1)]
def halfL (a m : Int) : List D := (List.range ((m - 1) / 2).toNat).map (hrD a m)
theorem hr_nr (a m : Int) (k : Nat) : ∃ s : Int, hrD a m k = .tup [.int (1 + (k : Int)), .int (nr a m k), .int s] := by
  unfold hrD nr
  by_cases q : 2 * (a * (1 + (k : Int)) % m) < m
  · rw [if_pos q, if_pos q]; exact ⟨_, rfl⟩
  · rw [if_neg q, if_neg q]; exact ⟨_, rfl⟩
theorem hr_sg {a m : Int} (hm : 0 < m) (h1 : m % 2 = 1) (k : Nat) : ∃ x y : Int, hrD a m k = .tup [.int x, .int y, .int (sg (ind (m < 2 * (a * ((k : Int) + 1) % m))))] := by
  unfold hrD
  rw [Int.add_comm 1 (k : Int)]
  by_cases q : 2 * (a * ((k : Int) + 1) % m) < m
  · have e : sg (ind (m < 2 * (a * ((k : Int) + 1) % m))) = 1 := by unfold ind; rw [if_neg (by omega)]; rfl
    rw [if_pos q, e]
    exact ⟨_, _, rfl⟩
  · have e : sg (ind (m < 2 * (a * ((k : Int) + 1) % m))) = -1 := by unfold ind; rw [if_pos (by omega)]; rfl
    rw [if_neg q, e]
    exact ⟨_, _, rfl⟩
theorem lay_hrD (n : Nat) (a m : Int) (k : Nat) : D.lay (n + 1) (hrD a m k) = true := by
  unfold hrD
  split <;> simp

/-! ### shuffles: crossings, rounds -/
structure PI (p : Nat → Nat) (n : Nat) : Prop where
  lt : ∀ k, k < n → p k < n
  inj : ∀ i j, i < n → j < n → p i = p j → i = j
def triS (f : Nat → Nat → Int) (n : Nat) : Int := sumN (fun j => sumN (fun i => f i j) j) n
theorem sumN_succ (f : Nat → Int) (n : Nat) : sumN f (n + 1) = sumN f n + f n := rfl
theorem sumN_zero (f : Nat → Int) : sumN f 0 = 0 := rfl
theorem triS_dbl {f : Nat → Nat → Int} : ∀ {n : Nat}, (∀ i j, i < n → j < n → f i j = f j i) → (∀ i, i < n → f i i = 0) → sumN (fun i => sumN (fun j => f i j) n) n = 2 * triS f n
  | 0, _, _ => rfl
  | n + 1, hs, h0 => by
    have ih := triS_dbl (f := f) (n := n) (fun i j hi hj => hs i j (by omega) (by omega)) (fun i hi => h0 i (by omega))
    have e1 : sumN (fun i => sumN (fun j => f i j) (n + 1)) n = sumN (fun i => sumN (fun j => f i j) n) n + sumN (fun i => f i n) n := by
      rw [← sumN_add]; exact sumN_congr fun k _ => rfl
    have e2 : sumN (fun j => f n j) n = sumN (fun i => f i n) n := sumN_congr fun k hk => hs n k (by omega) (by omega)
    have e3 := h0 n (by omega)
    show sumN (fun i => sumN (fun j => f i j) (n + 1)) n + (sumN (fun j => f n j) n + f n n) = 2 * (triS f n + sumN (fun i => f i n) n)
    rw [e1, ih, e2, e3]; omega
theorem triS_congr {f g : Nat → Nat → Int} {n : Nat} (h : ∀ i j, i < j → j < n → f i j = g i j) : triS f n = triS g n :=
  sumN_congr fun j hj => sumN_congr fun i hi => h i j hi hj
theorem triS_add (f g : Nat → Nat → Int) (n : Nat) : triS (fun i j => f i j + g i j) n = triS f n + triS g n := by
  unfold triS
  rw [← sumN_add]
  exact sumN_congr fun j _ => sumN_add ..
theorem triS_sub (f g : Nat → Nat → Int) (n : Nat) : triS (fun i j => f i j - g i j) n = triS f n - triS g n := by
  unfold triS
  rw [← sumN_sub]
  exact sumN_congr fun j _ => sumN_sub ..
/-- do the two places cross -/
def xv (p : Nat → Nat) (i j : Nat) : Int := if i = j then 0 else if (i < j ↔ p i < p j) then 0 else 1
def ivs (p : Nat → Nat) (n : Nat) : Int := triS (xv p) n
theorem xv_self (p : Nat → Nat) (i : Nat) : xv p i i = 0 := by unfold xv; rw [if_pos rfl]
theorem xv_symm {p : Nat → Nat} {n i j : Nat} (h : PI p n) (hi : i < n) (hj : j < n) : xv p i j = xv p j i := by
  unfold xv
  by_cases e : i = j
  · rw [if_pos e, if_pos e.symm]
  · have ep : p i ≠ p j := fun q => e (h.inj i j hi hj q)
    rw [if_neg e, if_neg (show ¬ (j = i) from fun q => e q.symm)]
    by_cases q : (i < j ↔ p i < p j)
    · rw [if_pos q, if_pos (show (j < i ↔ p j < p i) by omega)]
    · rw [if_neg q, if_neg (show ¬ (j < i ↔ p j < p i) by omega)]
theorem xv_lt {p : Nat → Nat} {n i j : Nat} (h : PI p n) (hij : i < j) (hj : j < n) : xv p i j = ind (p j < p i) := by
  have ep : p i ≠ p j := fun q => by have := h.inj i j (by omega) hj q; omega
  unfold xv ind
  rw [if_neg (by omega)]
  by_cases q : p j < p i
  · rw [if_pos q, if_neg (by omega)]
  · rw [if_neg q, if_pos (by omega)]
theorem PI.comp {p q : Nat → Nat} {n : Nat} (hp : PI p n) (hq : PI q n) : PI (fun k => p (q k)) n :=
  ⟨fun k hk => hp.lt _ (hq.lt k hk), fun i j hi hj e => hq.inj i j hi hj (hp.inj _ _ (hq.lt i hi) (hq.lt j hj) e)⟩
theorem xv_comp {p q : Nat → Nat} {n i j : Nat} (hp : PI p n) (hq : PI q n) (hi : i < n) (hj : j < n) : xv (fun k => p (q k)) i j = xv q i j + xv p (q i) (q j) - 2 * (xv q i j * xv p (q i) (q j)) := by
  by_cases e : i = j
  · subst e; rw [xv_self, xv_self, xv_self]; rfl
  · have eq : q i ≠ q j := fun z => e (hq.inj i j hi hj z)
    have ep : p (q i) ≠ p (q j) := fun z => eq (hp.inj _ _ (hq.lt i hi) (hq.lt j hj) z)
    unfold xv
    rw [if_neg e, if_neg e, if_neg eq]
    by_cases a : i < j <;> by_cases b : q i < q j <;> by_cases c : p (q i) < p (q j) <;> simp [a, b, c]
theorem ivc_comp {p q : Nat → Nat} {n : Nat} (hp : PI p n) (hq : PI q n) : ivs (fun k => p (q k)) n % 2 = (ivs p n + ivs q n) % 2 := by
  have s1 := triS_dbl (f := xv fun k => p (q k)) (n := n) (fun i j hi hj => xv_symm (hp.comp hq) hi hj) (fun i _ => xv_self _ i)
  have s2 := triS_dbl (f := xv p) (n := n) (fun i j hi hj => xv_symm hp hi hj) (fun i _ => xv_self _ i)
  have s3 := triS_dbl (f := xv q) (n := n) (fun i j hi hj => xv_symm hq hi hj) (fun i _ => xv_self _ i)
  have s4 := triS_dbl (f := fun i j => xv q i j * xv p (q i) (q j)) (n := n) (fun i j hi hj => by
    show xv q i j * xv p (q i) (q j) = xv q j i * xv p (q j) (q i)
    rw [xv_symm hq hi hj, xv_symm hp (hq.lt i hi) (hq.lt j hj)]) (fun i _ => by
    show xv q i i * xv p (q i) (q i) = 0
    rw [xv_self]; exact Int.zero_mul _)
  have e1 : sumN (fun i => sumN (fun j => xv (fun k => p (q k)) i j) n) n = sumN (fun i => sumN (fun j => xv q i j) n) n + sumN (fun i => sumN (fun j => xv p (q i) (q j)) n) n - 2 * sumN (fun i => sumN (fun j => xv q i j * xv p (q i) (q j)) n) n := by
    rw [← sumN_mul, ← sumN_add, ← sumN_sub]
    refine sumN_congr fun i hi => ?_
    rw [← sumN_mul, ← sumN_add, ← sumN_sub]
    exact sumN_congr fun j hj => xv_comp hp hq hi hj
  have e2 : sumN (fun i => sumN (fun j => xv p (q i) (q j)) n) n = sumN (fun i => sumN (fun j => xv p i j) n) n := by
    have a : ∀ i, sumN (fun j => xv p (q i) (q j)) n = sumN (fun j => xv p (q i) j) n := fun i => sumN_perm hq.lt hq.inj (fun j => xv p (q i) j)
    rw [sumN_congr fun i _ => a i]
    exact sumN_perm hq.lt hq.inj (fun i => sumN (fun j => xv p i j) n)
  rw [e2, s1, s2, s3, s4] at e1
  unfold ivs
  generalize triS (fun i j => xv q i j * xv p (q i) (q j)) n = z at e1
  omega
/-! two places exchanged -/
def tp (a b k : Nat) : Nat := if k = a then b else if k = b then a else k
theorem tp_a {a b : Nat} : tp a b a = b := by unfold tp; rw [if_pos rfl]
theorem tp_b {a b : Nat} : tp a b b = a := by unfold tp; split <;> simp_all
theorem tp_o {a b k : Nat} (h1 : k ≠ a) (h2 : k ≠ b) : tp a b k = k := by unfold tp; rw [if_neg h1, if_neg h2]
theorem PI.tp {a b n : Nat} (ha : a < n) (hb : b < n) : PI (tp a b) n := by
  constructor
  · intro k hk
    unfold Dv.tp
    split
    · exact hb
    · split
      · exact ha
      · exact hk
  · intro i j hi hj e
    unfold Dv.tp at e
    split at e <;> split at e <;> (try split at e) <;> (try split at e) <;> omega
theorem sum_at (G : Nat → Int) (b : Nat) : ∀ n : Nat, sumN (fun j => if j = b then G j else 0) n = if b < n then G b else 0
  | 0 => by rw [if_neg (by omega)]; rfl
  | n + 1 => by
    rw [sumN_succ, sum_at G b n]
    by_cases h : b < n
    · rw [if_pos h, if_neg (by omega), if_pos (by omega)]; omega
    · by_cases h2 : n = b
      · subst h2; rw [if_neg (by omega), if_pos rfl, if_pos (by omega)]; omega
      · rw [if_neg h, if_neg h2, if_neg (by omega)]; rfl
theorem sum_mid (a b : Nat) (hab : a < b) : ∀ n : Nat, sumN (fun j => if a < j ∧ j ≤ b then (1 : Int) else 0) n = if n ≤ a then 0 else if n ≤ b then (n : Int) - a - 1 else (b : Int) - a
  | 0 => by rw [if_pos (by omega)]; rfl
  | n + 1 => by
    rw [sumN_succ, sum_mid a b hab n]
    by_cases h1 : n ≤ a
    · rw [if_pos h1, if_neg (by omega)]
      by_cases h2 : n + 1 ≤ a
      · rw [if_pos h2]; rfl
      · rw [if_neg h2, if_pos (by omega)]; omega
    · rw [if_neg h1, if_neg (show ¬ n + 1 ≤ a by omega)]
      by_cases h2 : n ≤ b
      · rw [if_pos h2, if_pos (by omega)]
        by_cases h3 : n + 1 ≤ b
        · rw [if_pos h3]; omega
        · rw [if_neg h3]; omega
      · rw [if_neg h2, if_neg (by omega), if_neg (by omega)]; omega
theorem sum_from (a : Nat) : ∀ n : Nat, a ≤ n → sumN (fun i => if a ≤ i then (1 : Int) else 0) n = (n : Int) - a
  | 0, h => by rw [sumN_zero]; omega
  | n + 1, h => by
    rw [sumN_succ]
    by_cases h2 : a ≤ n
    · rw [sum_from a n h2, if_pos h2]; omega
    · rw [if_neg h2]
      have e : sumN (fun i => if a ≤ i then (1 : Int) else 0) n = sumN (fun _ => 0) n := sumN_congr fun k hk => if_neg (by omega)
      rw [e, sumN_const]; omega
theorem inv_tp {a b n : Nat} (hab : a < b) (hb : b < n) : ivs (tp a b) n = 2 * ((b : Int) - a) - 1 := by
  have e : ∀ i j, i < j → j < n → xv (tp a b) i j = (if i = a then (if a < j ∧ j ≤ b then (1 : Int) else 0) else 0) + (if j = b then (if a ≤ i then 1 else 0) else 0) - (if i = a then (if j = b then 1 else 0) else 0) := by
    intro i j hij hj
    rw [xv_lt (PI.tp (by omega) hb) hij hj]
    have key : (tp a b j < tp a b i) ↔ ((i = a ∧ j ≤ b) ∨ (j = b ∧ a ≤ i)) := by
      unfold tp
      repeat' split
      all_goals omega
    have e0 : ind (tp a b j < tp a b i) = if ((i = a ∧ j ≤ b) ∨ (j = b ∧ a ≤ i)) then 1 else 0 := by
      unfold ind
      by_cases h : tp a b j < tp a b i
      · rw [if_pos h, if_pos (key.mp h)]
      · rw [if_neg h, if_neg (fun z => h (key.mpr z))]
    rw [e0]
    repeat' split
    all_goals omega
  unfold ivs
  rw [triS_congr e, triS_sub, triS_add]
  unfold triS
  have e1 : sumN (fun j => sumN (fun i => if i = a then (if a < j ∧ j ≤ b then (1 : Int) else 0) else 0) j) n = (b : Int) - a := by
    have q : ∀ j, sumN (fun i => if i = a then (if a < j ∧ j ≤ b then (1 : Int) else 0) else 0) j = if a < j ∧ j ≤ b then (1 : Int) else 0 := fun j => by
      rw [sum_at (fun _ => if a < j ∧ j ≤ b then (1 : Int) else 0) a j]
      by_cases h : a < j
      · rw [if_pos h]
      · rw [if_neg h, if_neg (by omega)]
    rw [sumN_congr fun j _ => q j, sum_mid a b hab n, if_neg (by omega), if_neg (by omega)]
  have e2 : sumN (fun j => sumN (fun i => if j = b then (if a ≤ i then (1 : Int) else 0) else 0) j) n = (b : Int) - a := by
    have q : ∀ j, sumN (fun i => if j = b then (if a ≤ i then (1 : Int) else 0) else 0) j = if j = b then sumN (fun i => if a ≤ i then (1 : Int) else 0) j else 0 := fun j => by
      by_cases h : j = b
      · rw [if_pos h]; exact sumN_congr fun k _ => if_pos h
      · rw [if_neg h, sumN_congr fun k _ => if_neg h, sumN_const]; omega
    rw [sumN_congr fun j _ => q j, sum_at (fun j => sumN (fun i => if a ≤ i then (1 : Int) else 0) j) b n, if_pos hb, sum_from a b (by omega)]
  have e3 : sumN (fun j => sumN (fun i => if i = a then (if j = b then (1 : Int) else 0) else 0) j) n = 1 := by
    have q : ∀ j, sumN (fun i => if i = a then (if j = b then (1 : Int) else 0) else 0) j = if j = b then (if a < j then 1 else 0) else 0 := fun j => by
      rw [sum_at (fun _ => if j = b then (1 : Int) else 0) a j]
      by_cases h : a < j <;> by_cases h2 : j = b <;> simp [h, h2]
    rw [sumN_congr fun j _ => q j, sum_at (fun j => if a < j then (1 : Int) else 0) b n, if_pos hb, if_pos hab]
  rw [e1, e2, e3]; omega

/-! ### the shuffle of the rests: its crossings -/
def zf (a : Int) (m k : Nat) : Nat := (a * (k : Int) % (m : Int)).toNat
theorem zf_cast {a : Int} {m : Nat} (hm : 0 < m) (k : Nat) : ((zf a m k : Nat) : Int) = a * (k : Int) % (m : Int) := by
  have := Int.emod_nonneg (a * (k : Int)) (show (m : Int) ≠ 0 by omega)
  unfold zf; omega
theorem zf_PI {a : Int} {m : Nat} (hm : 0 < m) (hg : Int.gcd a m = 1) : PI (zf a m) m := by
  constructor
  · intro k _
    have h1 := Int.emod_lt_of_pos (a * (k : Int)) (show 0 < (m : Int) by omega)
    have h2 := zf_cast (a := a) hm k
    omega
  · intro i j hi hj e
    have e1 : a * (i : Int) % (m : Int) = a * (j : Int) % (m : Int) := by rw [← zf_cast hm, ← zf_cast hm, e]
    have d : (m : Int) ∣ a * ((i : Int) - j) := by
      rw [Int.mul_sub]
      exact Int.dvd_of_emod_eq_zero (Int.emod_eq_emod_iff_emod_sub_eq_zero.mp e1)
    have d2 : (m : Int) ∣ (i : Int) - j := cop_dvd (by rw [Int.gcd_comm]; exact hg) d
    have := small_dvd d2 (by omega) (by omega)
    omega
/-- one less than all but the first place -/
def zx (a : Int) (m i j : Nat) : Int := xv (zf a m) (i + 1) (j + 1)
theorem zf_zero {a : Int} {m : Nat} : zf a m 0 = 0 := by unfold zf; simp
theorem inv_tail {p : Nat → Nat} {M : Nat} (h : PI p (M + 1)) (h0 : p 0 = 0) : ivs p (M + 1) = triS (fun i j => xv p (i + 1) (j + 1)) M := by
  unfold ivs triS
  rw [sumN_front]
  have e0 : sumN (fun i => xv p i 0) 0 = 0 := rfl
  rw [e0, Int.zero_add]
  refine sumN_congr fun j hj => ?_
  rw [sumN_front]
  have e1 : xv p 0 (j + 1) = 0 := by
    rw [xv_lt h (by omega) (by omega), h0]
    unfold ind
    rw [if_neg (by omega)]
  rw [e1, Int.zero_add]
theorem zf_back {a : Int} {M i : Nat} (hg : Int.gcd a ((M + 1 : Nat) : Int) = 1) (hi : i < M) : zf a (M + 1) (M - 1 - i + 1) = M + 1 - zf a (M + 1) (i + 1) := by
  have hm : 0 < M + 1 := by omega
  have c1 := zf_cast (a := a) hm (M - 1 - i + 1)
  have c2 := zf_cast (a := a) hm (i + 1)
  have h1 := Int.emod_lt_of_pos (a * ((i + 1 : Nat) : Int)) (show 0 < ((M + 1 : Nat) : Int) by omega)
  have h2 := Int.emod_nonneg (a * ((i + 1 : Nat) : Int)) (show ((M + 1 : Nat) : Int) ≠ 0 by omega)
  have hP := zf_PI hm hg
  have h3 : zf a (M + 1) (i + 1) ≠ 0 := fun q => by
    have := hP.inj (i + 1) 0 (by omega) (by omega) (q.trans zf_zero.symm)
    omega
  have e : a * ((M - 1 - i + 1 : Nat) : Int) = (((M + 1 : Nat) : Int) - a * ((i + 1 : Nat) : Int) % ((M + 1 : Nat) : Int)) + ((M + 1 : Nat) : Int) * (a - 1 - a * ((i + 1 : Nat) : Int) / ((M + 1 : Nat) : Int)) := by
    have d := Int.emod_add_mul_ediv (a * ((i + 1 : Nat) : Int)) ((M + 1 : Nat) : Int)
    have k : ((M - 1 - i + 1 : Nat) : Int) = ((M + 1 : Nat) : Int) - ((i + 1 : Nat) : Int) := by omega
    rw [k, Int.mul_sub, Int.mul_sub, Int.mul_sub, Int.mul_one, Int.mul_comm a ((M + 1 : Nat) : Int)]
    generalize a * ((i + 1 : Nat) : Int) % ((M + 1 : Nat) : Int) = r at *
    generalize ((M + 1 : Nat) : Int) * (a * ((i + 1 : Nat) : Int) / ((M + 1 : Nat) : Int)) = q at *
    omega
  rw [e, Int.add_mul_emod_self_left, Int.emod_eq_of_lt (by omega) (by omega)] at c1
  omega
theorem zx_back {a : Int} {M i j : Nat} (hg : Int.gcd a ((M + 1 : Nat) : Int) = 1) (hi : i < M) (hj : j < M) : zx a (M + 1) (M - 1 - i) (M - 1 - j) = zx a (M + 1) i j := by
  have hm : 0 < M + 1 := by omega
  have hP := zf_PI hm hg
  have h1 := hP.lt (i + 1) (by omega)
  have h2 := hP.lt (j + 1) (by omega)
  have b1 := zf_back hg hi
  have b2 := zf_back hg hj
  unfold zx xv
  rw [b1, b2]
  by_cases e : i = j
  · subst e; rw [if_pos rfl, if_pos rfl]
  · have ep : zf a (M + 1) (i + 1) ≠ zf a (M + 1) (j + 1) := fun q => by
      have := hP.inj _ _ (show i + 1 < M + 1 by omega) (show j + 1 < M + 1 by omega) q
      omega
    rw [if_neg (by omega), if_neg (show ¬ i + 1 = j + 1 by omega)]
    by_cases q : (i + 1 < j + 1 ↔ zf a (M + 1) (i + 1) < zf a (M + 1) (j + 1))
    · rw [if_pos q, if_pos (by omega)]
    · rw [if_neg q, if_neg (by omega)]
/-- half of the pairs go together -/
theorem zol_pairs {f : Nat → Nat → Int} {M : Nat} (hs : ∀ i j, i < M → j < M → f i j = f j i) (h0 : ∀ i, i < M → f i i = 0) (hb : ∀ i j, i < M → j < M → f (M - 1 - i) (M - 1 - j) = f i j) :
    triS f M % 2 = sumN (fun j => if 2 * j < M - 1 then f j (M - 1 - j) else 0) M % 2 := by
  have sp : triS f M = triS (fun i j => if i + j < M - 1 then f i j else 0) M + triS (fun i j => if M - 1 < i + j then f i j else 0) M + triS (fun i j => if i + j = M - 1 then f i j else 0) M := by
    rw [← triS_add, ← triS_add]
    refine triS_congr fun i j _ _ => ?_
    rcases Nat.lt_trichotomy (i + j) (M - 1) with q | q | q
    · rw [if_pos q, if_neg (by omega), if_neg (by omega)]; omega
    · rw [if_neg (by omega), if_neg (by omega), if_pos q]; omega
    · rw [if_neg (by omega), if_pos q, if_neg (by omega)]; omega
  have d1 := triS_dbl (f := fun i j => if i + j < M - 1 then f i j else 0) (n := M) (fun i j hi hj => by
    show (if i + j < M - 1 then f i j else 0) = (if j + i < M - 1 then f j i else 0)
    rw [hs i j hi hj, Nat.add_comm]) (fun i hi => by
    show (if i + i < M - 1 then f i i else 0) = 0
    rw [h0 i hi]; split <;> rfl)
  have d2 := triS_dbl (f := fun i j => if M - 1 < i + j then f i j else 0) (n := M) (fun i j hi hj => by
    show (if M - 1 < i + j then f i j else 0) = (if M - 1 < j + i then f j i else 0)
    rw [hs i j hi hj, Nat.add_comm]) (fun i hi => by
    show (if M - 1 < i + i then f i i else 0) = 0
    rw [h0 i hi]; split <;> rfl)
  have rl : ∀ k, k < M → M - 1 - k < M := fun k hk => by omega
  have ri : ∀ i j, i < M → j < M → M - 1 - i = M - 1 - j → i = j := fun i j hi hj e => by omega
  have d3 : sumN (fun i => sumN (fun j => if M - 1 < i + j then f i j else 0) M) M = sumN (fun i => sumN (fun j => if i + j < M - 1 then f i j else 0) M) M := by
    rw [← sumN_perm rl ri (fun i => sumN (fun j => if M - 1 < i + j then f i j else 0) M)]
    refine sumN_congr fun i hi => ?_
    rw [← sumN_perm rl ri (fun j => if M - 1 < M - 1 - i + j then f (M - 1 - i) j else 0)]
    refine sumN_congr fun j hj => ?_
    rw [hb i j hi hj]
    by_cases q : i + j < M - 1
    · rw [if_pos q, if_pos (by omega)]
    · rw [if_neg q, if_neg (by omega)]
  have d4 : triS (fun i j => if i + j = M - 1 then f i j else 0) M = sumN (fun j => if 2 * j < M - 1 then f j (M - 1 - j) else 0) M := by
    have q : ∀ j, j < M → sumN (fun i => if i + j = M - 1 then f i j else 0) j = if M - 1 < 2 * j then f (M - 1 - j) j else 0 := fun j hj => by
      have e : sumN (fun i => if i + j = M - 1 then f i j else 0) j = sumN (fun i => if i = M - 1 - j then f i j else 0) j := sumN_congr fun i _ => by
        by_cases z : i = M - 1 - j
        · rw [if_pos z, if_pos (by omega)]
        · rw [if_neg z, if_neg (by omega)]
      rw [e, sum_at (fun i => f i j) (M - 1 - j) j]
      by_cases z : M - 1 < 2 * j
      · rw [if_pos z, if_pos (by omega)]
      · rw [if_neg z, if_neg (by omega)]
    unfold triS
    rw [sumN_congr q, ← sumN_perm rl ri (fun j => if M - 1 < 2 * j then f (M - 1 - j) j else 0)]
    refine sumN_congr fun j hj => ?_
    have e : M - 1 - (M - 1 - j) = j := by omega
    rw [e]
    by_cases z : 2 * j < M - 1
    · rw [if_pos z, if_pos (by omega)]
    · rw [if_neg z, if_neg (by omega)]
  rw [d2, d1] at d3
  rw [sp, d4]
  omega
theorem zol {a : Int} {M : Nat} (hg : Int.gcd a ((M + 1 : Nat) : Int) = 1) : ivs (zf a (M + 1)) (M + 1) % 2 = sumN (fun j => if 2 * j < M - 1 then ind (((M + 1 : Nat) : Int) < 2 * (a * ((j : Int) + 1) % ((M + 1 : Nat) : Int))) else 0) M % 2 := by
  have hm : 0 < M + 1 := by omega
  have hP := zf_PI hm hg
  rw [inv_tail hP zf_zero]
  have z := zol_pairs (f := zx a (M + 1)) (M := M) (fun i j hi hj => xv_symm hP (by omega) (by omega)) (fun i _ => xv_self _ _) (fun i j hi hj => zx_back hg hi hj)
  have e : triS (fun i j => xv (zf a (M + 1)) (i + 1) (j + 1)) M = triS (zx a (M + 1)) M := rfl
  rw [e, z]
  refine congrArg (· % 2) (sumN_congr fun j hj => ?_)
  by_cases q : 2 * j < M - 1
  · rw [if_pos q, if_pos q]
    unfold zx
    rw [xv_lt hP (by omega) (by omega), zf_back hg hj]
    have c := zf_cast (a := a) hm (j + 1)
    have c2 : ((j + 1 : Nat) : Int) = (j : Int) + 1 := by omega
    rw [c2] at c
    rw [← c]
    have hl := hP.lt (j + 1) (by omega)
    unfold ind
    by_cases w : M + 1 - zf a (M + 1) (j + 1) < zf a (M + 1) (j + 1)
    · rw [if_pos w, if_pos (by omega)]
    · rw [if_neg w, if_neg (by omega)]
  · rw [if_neg q, if_neg q]
theorem sum_cut (g : Nat → Int) (h : Nat) : ∀ M : Nat, h ≤ M → sumN (fun j => if j < h then g j else 0) M = sumN g h
  | 0, hh => by
    have : h = 0 := by omega
    subst this; rfl
  | M + 1, hh => by
    by_cases q : h = M + 1
    · subst q
      exact sumN_congr fun j hj => if_pos hj
    · rw [sumN_succ, sum_cut g h M (by omega), if_neg (by omega)]; omega
theorem zol_odd {a m : Int} (hm : 0 < m) (h1 : m % 2 = 1) (hg : Int.gcd a m = 1) : sg (ivs (zf a m.toNat) m.toNat) = J a m := by
  obtain ⟨M, rfl⟩ : ∃ M : Nat, m = ((M + 1 : Nat) : Int) := ⟨(m - 1).toNat, by omega⟩
  have e0 : ((M + 1 : Nat) : Int).toNat = M + 1 := by omega
  rw [e0]
  have z := zol hg
  have e : sumN (fun j => if 2 * j < M - 1 then ind (((M + 1 : Nat) : Int) < 2 * (a * ((j : Int) + 1) % ((M + 1 : Nat) : Int))) else 0) M = ov a ((M + 1 : Nat) : Int) := by
    rw [ov_ind hm h1]
    have e2 : ((((M + 1 : Nat) : Int) - 1) / 2).toNat = M / 2 := by omega
    rw [e2, ← sum_cut (fun k => ind (((M + 1 : Nat) : Int) < 2 * (a * ((k : Int) + 1) % ((M + 1 : Nat) : Int)))) (M / 2) M (by omega)]
    refine sumN_congr fun j hj => ?_
    by_cases q : 2 * j < M - 1
    · rw [if_pos q, if_pos (by omega)]
    · rw [if_neg q, if_neg (by omega)]
  rw [e] at z
  unfold J
  rw [if_pos hg]
  unfold sg
  rw [z]
theorem zol_even {a m : Int} (hm : 0 < m) (h1 : m % 2 = 0) (hg : Int.gcd a m = 1) : sg (ivs (zf a m.toNat) m.toNat) = if m % 4 = 2 ∨ a % 4 = 1 then 1 else -1 := by
  obtain ⟨M, rfl⟩ : ∃ M : Nat, m = ((M + 1 : Nat) : Int) := ⟨(m - 1).toNat, by omega⟩
  obtain ⟨h, hh⟩ : ∃ h : Nat, M + 1 = 2 * h := ⟨(M + 1) / 2, by omega⟩
  have e0 : ((M + 1 : Nat) : Int).toNat = M + 1 := by omega
  have em : ((M + 1 : Nat) : Int) = 2 * (h : Int) := by omega
  have g2 := gcd_one_mul (a := 2) (b := (h : Int)) (m := a)
  have g3 : Int.gcd (2 * (h : Int)) a = 1 := by rw [← em, Int.gcd_comm]; exact hg
  obtain ⟨g4, g5⟩ := g2.mp g3
  have hodd : a % 2 = 1 := by
    rcases (by omega : a % 2 = 0 ∨ a % 2 = 1) with q | q
    · have d1 : (2 : Int) ∣ a := by omega
      have := Int.dvd_coe_gcd (Int.dvd_refl 2) d1
      rw [g4] at this
      omega
    · exact q
  have h0 : 0 < h := by omega
  rw [e0]
  have z := zol hg
  have e : sumN (fun j => if 2 * j < M - 1 then ind (((M + 1 : Nat) : Int) < 2 * (a * ((j : Int) + 1) % ((M + 1 : Nat) : Int))) else 0) M = sumN (fun j => ind (((M + 1 : Nat) : Int) < 2 * (a * ((j : Int) + 1) % ((M + 1 : Nat) : Int)))) (h - 1) := by
    rw [← sum_cut (fun k => ind (((M + 1 : Nat) : Int) < 2 * (a * ((k : Int) + 1) % ((M + 1 : Nat) : Int)))) (h - 1) M (by omega)]
    refine sumN_congr fun j hj => ?_
    by_cases q : 2 * j < M - 1
    · rw [if_pos q, if_pos (by omega)]
    · rw [if_neg q, if_neg (by omega)]
  have e2 : sumN (fun j => ind (((M + 1 : Nat) : Int) < 2 * (a * ((j : Int) + 1) % ((M + 1 : Nat) : Int)))) (h - 1) % 2 = sumN (fun j => a * ((j : Int) + 1) / (h : Int)) (h - 1) % 2 := by
    refine sumN_mod fun j hj => ?_
    rw [em]
    have d1 := Int.emod_add_mul_ediv (a * ((j : Int) + 1)) (2 * (h : Int))
    have r0 := Int.emod_nonneg (a * ((j : Int) + 1)) (show 2 * (h : Int) ≠ 0 by omega)
    have r1 := Int.emod_lt_of_pos (a * ((j : Int) + 1)) (show 0 < 2 * (h : Int) by omega)
    have d2 := Int.emod_add_mul_ediv (a * ((j : Int) + 1)) (h : Int)
    have r2 := Int.emod_nonneg (a * ((j : Int) + 1)) (show (h : Int) ≠ 0 by omega)
    have r3 := Int.emod_lt_of_pos (a * ((j : Int) + 1)) (show 0 < (h : Int) by omega)
    have r4 : a * ((j : Int) + 1) % (h : Int) ≠ 0 := fun w => by
      have w2 := cop_dvd g5 (Int.dvd_of_emod_eq_zero w)
      have := small_dvd w2 (by omega) (by omega)
      omega
    generalize a * ((j : Int) + 1) % (2 * (h : Int)) = r at *
    generalize a * ((j : Int) + 1) % (h : Int) = s at *
    generalize a * ((j : Int) + 1) / (2 * (h : Int)) = q at *
    generalize a * ((j : Int) + 1) / (h : Int) = u at *
    have e3 : 2 * (h : Int) * q = (h : Int) * (2 * q) := by rw [Int.mul_assoc, Int.mul_left_comm]
    have e4 : (h : Int) * (2 * q) - (h : Int) * u = (h : Int) * (2 * q - u) := (Int.mul_sub ..).symm
    have e5 : (h : Int) * (2 * q - u) = s - r := by omega
    unfold ind
    by_cases w : (h : Int) < r
    · rw [if_pos (by omega)]
      have : 2 * q - u = -1 := by
        rcases Int.lt_trichotomy (2 * q - u) (-1) with x | x | x
        · have := Int.mul_le_mul_of_nonneg_left (show 2 * q - u ≤ -2 by omega) (show 0 ≤ (h : Int) by omega)
          omega
        · exact x
        · have := Int.mul_le_mul_of_nonneg_left (show 0 ≤ 2 * q - u by omega) (show 0 ≤ (h : Int) by omega)
          omega
      omega
    · rw [if_neg (by omega)]
      have : 2 * q - u = 0 := by
        rcases Int.lt_trichotomy (2 * q - u) 0 with x | x | x
        · have := Int.mul_le_mul_of_nonneg_left (show 2 * q - u ≤ -1 by omega) (show 0 ≤ (h : Int) by omega)
          have : s = 0 ∨ 0 < s := by omega
          omega
        · exact x
        · have := Int.mul_le_mul_of_nonneg_left (show 1 ≤ 2 * q - u by omega) (show 0 ≤ (h : Int) by omega)
          omega
      omega
  have e3 := sum_flo (a := a) h0 (by rw [Int.gcd_comm]; exact g5)
  have e4 : sumN (fun k => a * (k : Int) / (h : Int)) h = sumN (fun j => a * ((j : Int) + 1) / (h : Int)) (h - 1) := by
    obtain ⟨t, rfl⟩ : ∃ t, h = t + 1 := ⟨h - 1, by omega⟩
    rw [sumN_front, Nat.add_sub_cancel]
    have : a * ((0 : Nat) : Int) / ((t + 1 : Nat) : Int) = 0 := by simp
    rw [this, Int.zero_add]
    exact sumN_congr fun k _ => by rw [show ((k + 1 : Nat) : Int) = (k : Int) + 1 by omega]
  rw [e4] at e3
  rw [e, e2] at z
  rw [sg_mod z]
  generalize sumN (fun j => a * ((j : Int) + 1) / (h : Int)) (h - 1) = S at *
  obtain ⟨u, hu⟩ : ∃ u, a = 2 * u + 1 := ⟨(a - 1) / 2, by omega⟩
  have e5 : S = u * ((h : Int) - 1) := by
    have : (a - 1) * ((h : Int) - 1) = 2 * (u * ((h : Int) - 1)) := by rw [hu, ← Int.mul_assoc]; congr 1; omega
    omega
  rw [em]
  unfold sg
  rw [e5, Int.mul_emod]
  rcases (by omega : (h : Int) % 2 = 1 ∨ (h : Int) % 2 = 0) with q | q
  · rw [show ((h : Int) - 1) % 2 = 0 by omega, Int.mul_zero]
    rw [if_pos (by rfl), if_pos (.inl (by omega))]
  · rw [show ((h : Int) - 1) % 2 = 1 by omega, Int.mul_one]
    rcases (by omega : u % 2 = 0 ∨ u % 2 = 1) with w | w
    · rw [w, if_pos (by rfl), if_pos (.inr (by omega))]
    · rw [w, if_neg (by decide), if_neg (by omega)]

/-! ### primes -/
structure Pr (p : Int) : Prop where
  two : 2 ≤ p
  no : ∀ d : Int, 2 ≤ d → d < p → ¬ d ∣ p
theorem Pr.cop {p a : Int} (h : Pr p) (ha : ¬ p ∣ a) : Int.gcd a p = 1 := by
  have d1 : ((Int.gcd a p : Nat) : Int) ∣ a := Int.gcd_dvd_left ..
  have d2 : ((Int.gcd a p : Nat) : Int) ∣ p := Int.gcd_dvd_right ..
  have p2 := h.two
  have g0 : 0 < Int.gcd a p := Int.gcd_pos_of_ne_zero_right a (by omega)
  have gp := Int.le_of_dvd (by omega) d2
  rcases Nat.lt_or_ge 1 (Int.gcd a p) with q | q
  · exfalso
    by_cases e : ((Int.gcd a p : Nat) : Int) = p
    · rw [e] at d1; exact ha d1
    · exact h.no _ (by omega) (by omega) d2
  · omega
theorem Pr.ndvd {p a : Int} (h : Pr p) (g : Int.gcd a p = 1) : ¬ p ∣ a := by
  intro d
  have p2 := h.two
  have := Int.dvd_coe_gcd d (Int.dvd_refl p)
  rw [g] at this
  have := Int.le_of_dvd (by decide) this
  omega
theorem Pr.mul {p a b : Int} (h : Pr p) (hd : p ∣ a * b) : p ∣ a ∨ p ∣ b := by
  by_cases q : p ∣ a
  · exact .inl q
  · exact .inr (cop_dvd (by rw [Int.gcd_comm]; exact h.cop q) hd)
theorem Pr.small {p : Int} (h2 : 2 ≤ p) (h : ∀ d : Int, 2 ≤ d → d * d ≤ p → ¬ d ∣ p) : Pr p := by
  refine ⟨h2, fun d d2 dp hd => ?_⟩
  obtain ⟨e, he⟩ := hd
  have e0 : 0 < e := by
    rcases Int.lt_or_le 0 e with q | q
    · exact q
    · have := Int.mul_nonpos_of_nonneg_of_nonpos (show 0 ≤ d by omega) q
      omega
  have e2 : 2 ≤ e := by
    rcases Int.lt_or_le e 2 with q | q
    · have : e = 1 := by omega
      rw [this, Int.mul_one] at he
      omega
    · exact q
  rcases Int.le_total d e with q | q
  · have := Int.mul_le_mul_of_nonneg_left q (show 0 ≤ d by omega)
    exact h d d2 (by omega) ⟨e, he⟩
  · have := Int.mul_le_mul_of_nonneg_right q (show 0 ≤ e by omega)
    exact h e e2 (by omega) ⟨d, by rw [Int.mul_comm]; exact he⟩
theorem Pr.pow {p a : Int} (h : Pr p) {n : Nat} (ha : ¬ p ∣ a) : ¬ p ∣ a ^ n := by
  induction n with
  | zero =>
    intro d
    rw [Int.pow_zero] at d
    have := Int.le_of_dvd (by decide) d
    have := h.two
    omega
  | succ n ih =>
    rw [Int.pow_succ]
    intro d
    rcases h.mul d with q | q
    · exact ih q
    · exact ha q
/-! polynomials with leading 1, the lowest first -/
def mon : List Int → Int → Int
  | [], _ => 1
  | c :: cs, x => c + x * mon cs x
theorem mon_add (r : Int) : ∀ (ds u : List Int), u.length = ds.length + 1 → ∃ w : List Int, w.length = u.length ∧ ∀ x, mon u x + r * mon ds x = mon w x
  | [], [a], _ => ⟨[a + r], rfl, fun x => by simp only [mon]; omega⟩
  | [], [], h => by simp at h
  | [], _ :: _ :: _, h => by simp at h
  | b :: ds, [], h => by simp at h
  | b :: ds, a :: u, h => by
    obtain ⟨w, hw, e⟩ := mon_add r ds u (by simpa using h)
    refine ⟨(a + r * b) :: w, by simp [hw], fun x => ?_⟩
    simp only [mon]
    rw [← e x]
    grind
theorem mon_div (r : Int) : ∀ cs : List Int, cs ≠ [] → ∃ ds : List Int, ds.length + 1 = cs.length ∧ ∀ x, mon cs x - mon cs r = (x - r) * mon ds x
  | [], h => absurd rfl h
  | [c], _ => ⟨[], rfl, fun x => by simp only [mon]; grind⟩
  | c :: d :: t, _ => by
    obtain ⟨ds, hl, e⟩ := mon_div r (d :: t) (by simp)
    obtain ⟨w, hw, e2⟩ := mon_add r ds (d :: t) (by omega)
    refine ⟨w, by simp [hw], fun x => ?_⟩
    have e1 := e x
    rw [← e2 x]
    show c + x * mon (d :: t) x - (c + r * mon (d :: t) r) = _
    have : mon (d :: t) r = mon (d :: t) x - (x - r) * mon ds x := by omega
    rw [this]
    clear this e1 e e2
    grind
theorem lag {p : Int} (h : Pr p) : ∀ (cs : List Int) (L : List Int), L.Pairwise (fun x y => ¬ p ∣ x - y) → (∀ x ∈ L, p ∣ mon cs x) → L.length ≤ cs.length
  | _, [], _, _ => by simp
  | [], r :: L, _, hr => by
    have d := hr r List.mem_cons_self
    simp only [mon] at d
    have := Int.le_of_dvd (by decide) d
    have := h.two
    omega
  | c :: cs, r :: L, hp, hr => by
    obtain ⟨ds, hl, e⟩ := mon_div r (c :: cs) (by simp)
    have hp' := List.pairwise_cons.mp hp
    have := lag h ds L hp'.2 fun x hx => by
      have d1 := hr x (List.mem_cons_of_mem _ hx)
      have d2 := hr r List.mem_cons_self
      have d3 := Int.dvd_sub d1 d2
      rw [e x] at d3
      rcases h.mul d3 with q | q
      · exfalso
        refine hp'.1 x hx ?_
        have := Int.dvd_neg.mpr q
        rwa [Int.neg_sub] at this
      · exact q
    simp only [List.length_cons] at hl ⊢
    omega
termination_by cs => cs.length
decreasing_by simp only [List.length_cons] at *; omega
theorem mon_rep (x : Int) : ∀ d : Nat, mon (List.replicate d 0) x = x ^ d
  | 0 => by simp [mon]
  | d + 1 => by
    rw [List.replicate_succ]
    show 0 + x * mon (List.replicate d 0) x = _
    rw [mon_rep x d, Int.pow_succ, Int.zero_add, Int.mul_comm]
theorem lag_pow {p c : Int} (h : Pr p) {d : Nat} (hd : 0 < d) {L : List Int} (hp : L.Pairwise fun x y => ¬ p ∣ x - y) (hr : ∀ x ∈ L, p ∣ x ^ d - c) : L.length ≤ d := by
  obtain ⟨e, rfl⟩ : ∃ e, d = e + 1 := ⟨d - 1, by omega⟩
  have := lag h ((-c) :: List.replicate e 0) L hp fun x hx => by
    have := hr x hx
    show p ∣ -c + x * mon (List.replicate e 0) x
    rw [mon_rep]
    rw [Int.pow_succ, Int.mul_comm] at this
    rw [Int.add_comm, ← Int.sub_eq_add_neg]
    exact this
  simpa using this
/-! products -/
def prdN (f : Nat → Int) : Nat → Int
  | 0 => 1
  | n + 1 => prdN f n * f n
def lpr : List Int → Int
  | [] => 1
  | x :: r => x * lpr r
theorem lpr_app (xs ys : List Int) : lpr (xs ++ ys) = lpr xs * lpr ys := by
  induction xs with
  | nil => simp [lpr]
  | cons x xs ih => simp only [List.cons_append, lpr, ih, Int.mul_assoc]
theorem perm_lpr {xs ys : List Int} (h : xs.Perm ys) : lpr xs = lpr ys := by
  induction h with
  | nil => rfl
  | cons x _ ih => simp only [lpr, ih]
  | swap x y l => simp only [lpr]; rw [Int.mul_left_comm]
  | trans _ _ ih1 ih2 => exact ih1.trans ih2
theorem prdN_list (f : Nat → Int) : ∀ n : Nat, prdN f n = lpr ((List.range n).map f)
  | 0 => rfl
  | n + 1 => by
    rw [List.range_succ, List.map_append, lpr_app, ← prdN_list f n]
    simp [lpr, prdN]
theorem prdN_perm {n : Nat} {g : Nat → Nat} (h1 : ∀ k, k < n → g k < n) (h2 : ∀ i j, i < n → j < n → g i = g j → i = j) (F : Nat → Int) : prdN (fun k => F (g k)) n = prdN F n := by
  rw [prdN_list, prdN_list]
  have e : (List.range n).map (fun k => F (g k)) = ((List.range n).map g).map F := by rw [List.map_map]; rfl
  rw [e]
  exact perm_lpr ((map_perm h1 h2).map F)
theorem prdN_mul (f g : Nat → Int) : ∀ n : Nat, prdN (fun k => f k * g k) n = prdN f n * prdN g n
  | 0 => rfl
  | n + 1 => by
    simp only [prdN]
    rw [prdN_mul f g n]
    generalize prdN f n = a
    generalize prdN g n = b
    grind
theorem prdN_const (a : Int) : ∀ n : Nat, prdN (fun _ => a) n = a ^ n
  | 0 => by simp [prdN]
  | n + 1 => by simp only [prdN]; rw [prdN_const a n, Int.pow_succ]
theorem mul_cong {p a b c d : Int} (h1 : p ∣ a - b) (h2 : p ∣ c - d) : p ∣ a * c - b * d := by
  have e : a * c - b * d = (a - b) * c + b * (c - d) := by grind
  rw [e]
  exact Int.dvd_add (Int.dvd_mul_of_dvd_left h1) (Int.dvd_mul_of_dvd_right h2)
theorem prdN_cong {p : Int} {f g : Nat → Int} : ∀ {n : Nat}, (∀ k, k < n → p ∣ f k - g k) → p ∣ prdN f n - prdN g n
  | 0, _ => by simp [prdN]
  | n + 1, h => by
    simp only [prdN]
    exact mul_cong (prdN_cong fun k hk => h k (by omega)) (h n (by omega))
theorem prdN_eq {f g : Nat → Int} : ∀ {n : Nat}, (∀ k, k < n → f k = g k) → prdN f n = prdN g n
  | 0, _ => rfl
  | n + 1, h => by simp only [prdN]; rw [prdN_eq fun k hk => h k (by omega), h n (by omega)]
theorem Pr.prdN {p : Int} (h : Pr p) {f : Nat → Int} : ∀ {n : Nat}, (∀ k, k < n → ¬ p ∣ f k) → ¬ p ∣ Dv.prdN f n
  | 0, _ => by
    intro d
    have d : p ∣ 1 := d
    have := Int.le_of_dvd (by decide) d
    have := h.two
    omega
  | n + 1, hf => by
    intro d
    rcases h.mul (show p ∣ Dv.prdN f n * f n from d) with q | q
    · exact Pr.prdN h (fun k hk => hf k (by omega)) q
    · exact hf n (by omega) q
theorem dvd_emod_sub (a p : Int) : p ∣ a - a % p := ⟨a / p, by have := Int.emod_add_mul_ediv a p; omega⟩
theorem Pr.low {p : Int} (h : Pr p) {k : Nat} (hk : (k : Int) + 1 < p) : ¬ p ∣ (k : Int) + 1 := fun d => by
  have := Int.le_of_dvd (by omega) d
  omega
theorem Pr.cancel {p a b c : Int} (h : Pr p) (hc : ¬ p ∣ c) (hd : p ∣ a * c - b * c) : p ∣ a - b := by
  rw [← Int.sub_mul] at hd
  exact (h.mul hd).resolve_right hc
theorem fermat {p a : Int} (h : Pr p) (ha : ¬ p ∣ a) : p ∣ a ^ (p - 1).toNat - 1 := by
  have p2 := h.two
  let n := (p - 1).toNat
  let g : Nat → Nat := fun k => (a * ((k : Int) + 1) % p - 1).toNat
  have gv : ∀ k : Nat, k < n → ((g k : Nat) : Int) + 1 = a * ((k : Int) + 1) % p := by
    intro k hk
    have h0 := Int.emod_nonneg (a * ((k : Int) + 1)) (show p ≠ 0 by omega)
    have hz : a * ((k : Int) + 1) % p ≠ 0 := fun z => by
      rcases h.mul (Int.dvd_of_emod_eq_zero z) with q | q
      · exact ha q
      · exact h.low (by omega) q
    show (((a * ((k : Int) + 1) % p - 1).toNat : Nat) : Int) + 1 = _
    omega
  have g1 : ∀ k, k < n → g k < n := by
    intro k hk
    have := gv k hk
    have h1 := Int.emod_lt_of_pos (a * ((k : Int) + 1)) (show 0 < p by omega)
    omega
  have g2 : ∀ i j, i < n → j < n → g i = g j → i = j := by
    intro i j hi hj e
    have e1 := gv i hi
    have e2 := gv j hj
    rw [e, e2] at e1
    have d : p ∣ a * ((j : Int) + 1) - a * ((i : Int) + 1) := Int.dvd_of_emod_eq_zero (Int.emod_eq_emod_iff_emod_sub_eq_zero.mp e1)
    rw [← Int.mul_sub] at d
    have d2 := (h.mul d).resolve_left ha
    have e3 : (j : Int) + 1 - ((i : Int) + 1) = (j : Int) - i := by omega
    rw [e3] at d2
    have := small_dvd d2 (by omega) (by omega)
    omega
  have h1 : prdN (fun k => a * ((k : Int) + 1)) n = a ^ n * prdN (fun k => (k : Int) + 1) n := by rw [prdN_mul, prdN_const]
  have h2 : p ∣ prdN (fun k => a * ((k : Int) + 1)) n - prdN (fun k => ((g k : Nat) : Int) + 1) n := prdN_cong fun k hk => by rw [gv k hk]; exact dvd_emod_sub _ _
  rw [h1, prdN_perm g1 g2 (fun k => (k : Int) + 1)] at h2
  refine h.cancel (c := prdN (fun k => (k : Int) + 1) n) (h.prdN fun k hk => h.low (by omega)) ?_
  rw [Int.one_mul]
  exact h2
theorem sg_prd (f : Nat → Int) : ∀ n : Nat, sg (sumN f n) = prdN (fun k => sg (f k)) n
  | 0 => rfl
  | n + 1 => by
    show sg (sumN f n + f n) = prdN (fun k => sg (f k)) n * sg (f n)
    rw [sg_add, sg_prd f n]
/-- Euler's criterion, from the half rests -/
theorem euler {p a : Int} (h : Pr p) (h1 : p % 2 = 1) (ha : ¬ p ∣ a) : p ∣ a ^ ((p - 1) / 2).toNat - J a p := by
  have p2 := h.two
  have p0 : 0 < p := by omega
  have hg := h.cop ha
  let n := ((p - 1) / 2).toNat
  have e1 : J a p = prdN (fun k => sg (ind (p < 2 * (a * ((k : Int) + 1) % p)))) n := by
    unfold J
    rw [if_pos hg, ov_ind p0 h1, sg_prd]
  have lv := fun (k : Nat) (hk : k < n) => la_val p0 h1 hg hk
  have h2 : p ∣ prdN (fun k => a * ((k : Int) + 1)) n - prdN (fun k => sg (ind (p < 2 * (a * ((k : Int) + 1) % p))) * ((la a p k : Int) + 1)) n := prdN_cong fun k hk => by
    rw [lv k hk]
    have d := dvd_emod_sub (a * ((k : Int) + 1)) p
    unfold ind
    by_cases q : p < 2 * (a * ((k : Int) + 1) % p)
    · rw [if_pos q, if_pos q]
      have e : a * ((k : Int) + 1) - sg 1 * (p - a * ((k : Int) + 1) % p) = a * ((k : Int) + 1) - a * ((k : Int) + 1) % p + p := by
        have : sg 1 = -1 := rfl
        rw [this]
        omega
      rw [e]
      exact Int.dvd_add d (Int.dvd_refl p)
    · rw [if_neg q, if_neg q]
      have : sg 0 = 1 := rfl
      rw [this, Int.one_mul]
      exact d
  rw [prdN_mul (fun _ => a), prdN_const, prdN_mul (fun k => sg (ind (p < 2 * (a * ((k : Int) + 1) % p)))), ← e1] at h2
  have e2 : prdN (fun k => (la a p k : Int) + 1) n = prdN (fun k => (k : Int) + 1) n := prdN_perm (g := la a p) (fun k hk => la_lt p0 h1 hg hk) (fun i j hi hj e => la_inj p0 h1 hg hi hj e) fun k => (k : Int) + 1
  rw [e2] at h2
  exact h.cancel (h.prdN fun k hk => h.low (by omega)) h2
theorem Pr.ne2 {p : Int} (h : Pr p) (h1 : p % 2 = 1) : 3 ≤ p := by have := h.two; omega
theorem J_dvd {a p : Int} (h : Pr p) (hd : p ∣ a) : J a p = 0 := J_no fun g => h.ndvd g hd
theorem J_square {p a x : Int} (h : Pr p) (h1 : p % 2 = 1) (ha : ¬ p ∣ a) (hx : p ∣ x * x - a) : J a p = 1 := by
  have p0 : 0 < p := by have := h.two; omega
  have hx0 : ¬ p ∣ x := fun z => ha (by
    have d1 : p ∣ x * x := Int.dvd_mul_of_dvd_left z
    have := Int.dvd_sub d1 hx
    rwa [Int.sub_sub_self] at this)
  have e : J a p = J (x * x) p := by
    obtain ⟨c, hc⟩ := hx
    have : x * x = a + c * p := by rw [Int.mul_comm c p, ← hc]; omega
    rw [this, J_add p0 h1]
  rw [e, J_sq p0 h1 (h.cop hx0)]
theorem sq_list {p : Int} (h : Pr p) : ((List.range ((p - 1) / 2).toNat).map fun k : Nat => ((k : Int) + 1) * ((k : Int) + 1)).Pairwise fun x y => ¬ p ∣ x - y := by
  rw [List.pairwise_map]
  refine List.Pairwise.imp_of_mem ?_ List.pairwise_lt_range
  intro i j hi hj hij d
  have hi := List.mem_range.mp hi
  have hj := List.mem_range.mp hj
  have e : ((i : Int) + 1) * ((i : Int) + 1) - ((j : Int) + 1) * ((j : Int) + 1) = ((i : Int) - j) * ((i : Int) + j + 2) := by grind
  rw [e] at d
  rcases h.mul d with q | q
  · have := small_dvd q (by omega) (by omega)
    omega
  · have := Int.le_of_dvd (by omega) q
    omega
/-- a rest with the sign 1 is that of a square -/
theorem square_J {p a : Int} (h : Pr p) (h1 : p % 2 = 1) (ha : ¬ p ∣ a) (hj : J a p = 1) : ∃ k : Nat, (k : Int) + 1 ≤ (p - 1) / 2 ∧ p ∣ ((k : Int) + 1) * ((k : Int) + 1) - a := by
  have p3 := h.ne2 h1
  rcases Classical.em (∃ k : Nat, (k : Int) + 1 ≤ (p - 1) / 2 ∧ p ∣ ((k : Int) + 1) * ((k : Int) + 1) - a) with q | q
  · exact q
  · exfalso
    have hM : 0 < ((p - 1) / 2).toNat := by omega
    have key := lag_pow (c := 1) h hM (L := a :: (List.range ((p - 1) / 2).toNat).map fun k : Nat => ((k : Int) + 1) * ((k : Int) + 1)) (List.pairwise_cons.mpr ⟨fun y hy d => ?_, sq_list h⟩) (fun x hx => ?_)
    · simp at key
      omega
    · obtain ⟨k, hk, rfl⟩ := List.mem_map.mp hy
      have hk := List.mem_range.mp hk
      refine q ⟨k, by omega, ?_⟩
      have := Int.dvd_neg.mpr d
      rwa [Int.neg_sub] at this
    · rcases List.mem_cons.mp hx with rfl | hx
      · have := euler h h1 ha
        rwa [hj] at this
      · obtain ⟨k, hk, rfl⟩ := List.mem_map.mp hx
        have hk := List.mem_range.mp hk
        have nd : ¬ p ∣ (k : Int) + 1 := h.low (by omega)
        have nd2 : ¬ p ∣ ((k : Int) + 1) * ((k : Int) + 1) := fun d => (h.mul d).elim nd nd
        have := euler h h1 nd2
        rwa [J_square h h1 nd2 (x := (k : Int) + 1) (by simp)] at this
theorem Pr.nat {p : Nat} (h2 : 2 ≤ p) (h : (List.range p).all (fun d => decide (d < 2) || decide (p < d * d) || decide (p % d ≠ 0)) = true) : Pr (p : Int) := by
  refine Pr.small (by omega) fun d d2 dd hd => ?_
  obtain ⟨e, rfl⟩ := Int.eq_ofNat_of_zero_le (show 0 ≤ d by omega)
  have e2 : 2 ≤ e := by omega
  have ee : e * e ≤ p := by
    have : ((e * e : Nat) : Int) ≤ p := by rw [Int.natCast_mul]; exact dd
    omega
  have elt : e < p := by
    have := Nat.mul_le_mul_right e e2
    omega
  have := List.all_eq_true.mp h e (List.mem_range.mpr elt)
  simp only [Bool.or_eq_true, decide_eq_true_eq] at this
  rcases this with (q | q) | q
  · omega
  · omega
  · apply q
    have := Int.natCast_dvd_natCast.mp hd
    exact Nat.mod_eq_zero_of_dvd this
/-- which rests are squares of 1 .. i -/
def sqB (p i r : Nat) : Bool := (List.range i).any fun j => (j + 1) * (j + 1) % p == r
theorem sqB_succ (p i r : Nat) : sqB p (i + 1) r = (sqB p i r || ((i + 1) * (i + 1) % p == r)) := by
  unfold sqB
  rw [List.range_succ, List.any_append]
  simp
def sqL (p i : Nat) : List D := (List.range p).map fun r => .int (if sqB p i r = true then 1 else 0)
theorem sqL_set {p i : Nat} (hp : 0 < p) : (sqL p i).set ((i + 1) * (i + 1) % p) (.int 1) = sqL p (i + 1) := by
  apply List.ext_getElem?
  intro r
  unfold sqL
  have hl : (i + 1) * (i + 1) % p < p := Nat.mod_lt _ hp
  rw [List.getElem?_set, List.getElem?_map, List.getElem?_map, List.length_map, List.length_range]
  by_cases hr : r < p
  · rw [List.getElem?_range hr]
    simp only [Option.map_some, sqB_succ]
    by_cases e : (i + 1) * (i + 1) % p = r
    · rw [if_pos e, if_pos hl]
      simp [e]
    · rw [if_neg e]
      have : ((i + 1) * (i + 1) % p == r) = false := by simpa using e
      rw [this, Bool.or_false]
  · rw [List.getElem?_eq_none (by simpa using hr)]
    rw [if_neg (by omega)]
    rfl
theorem sqL_len (p i : Nat) : (sqL p i).length = p := by simp [sqL]
/-- the sign, from all squares -/
theorem J_squares {p a : Int} (h : Pr p) (h1 : p % 2 = 1) (ha : ¬ p ∣ a) : J a p = 2 * (if sqB p.toNat (p.toNat - 1) (a % p).toNat = true then 1 else 0) - 1 := by
  have p3 := h.ne2 h1
  have r0 := Int.emod_nonneg a (show p ≠ 0 by omega)
  have r1 := Int.emod_lt_of_pos a (show 0 < p by omega)
  have cast : ∀ j : Nat, (((j + 1) * (j + 1) % p.toNat : Nat) : Int) = ((j : Int) + 1) * ((j : Int) + 1) % p := fun j => by
    rw [Int.natCast_emod, Int.natCast_mul, show ((p.toNat : Nat) : Int) = p by omega]
    rfl
  by_cases q : sqB p.toNat (p.toNat - 1) (a % p).toNat = true
  · rw [if_pos q]
    obtain ⟨j, hj, e⟩ := List.any_eq_true.mp q
    have e : (j + 1) * (j + 1) % p.toNat = (a % p).toNat := by simpa using e
    have e2 : ((j : Int) + 1) * ((j : Int) + 1) % p = a % p := by rw [← cast j, e]; omega
    exact J_square h h1 ha (Int.dvd_of_emod_eq_zero (Int.emod_eq_emod_iff_emod_sub_eq_zero.mp e2))
  · rw [if_neg q]
    rcases J_pm (h.cop ha) with e | e
    · exfalso
      obtain ⟨k, hk, d⟩ := square_J h h1 ha e
      apply q
      refine List.any_eq_true.mpr ⟨k, List.mem_range.mpr (by omega), ?_⟩
      have e2 := Int.emod_eq_emod_iff_emod_sub_eq_zero.mpr (Int.emod_eq_zero_of_dvd d)
      rw [← cast k] at e2
      have : (k + 1) * (k + 1) % p.toNat = (a % p).toNat := by omega
      simpa using this
    · rw [e]; rfl

/-! ### primitive roots -/
def one (p y : Int) (n : Nat) : Prop := p ∣ y ^ n - 1
theorem one_zero (p y : Int) : one p y 0 := by unfold one; simp
theorem one_add {p y : Int} {a b : Nat} (h1 : one p y a) (h2 : one p y b) : one p y (a + b) := by
  unfold one at *
  have := mul_cong h1 h2
  rwa [← Int.pow_add, Int.mul_one] at this
theorem one_mul {p y : Int} {a : Nat} (h : one p y a) : ∀ k : Nat, one p y (a * k)
  | 0 => one_zero p y
  | k + 1 => by rw [Nat.mul_succ]; exact one_add (one_mul h k) h
theorem one_dvd {p y : Int} {a b : Nat} (h : one p y a) (d : a ∣ b) : one p y b := by
  obtain ⟨k, rfl⟩ := d
  exact one_mul h k
theorem one_pow {p y : Int} {a b : Nat} : one p (y ^ a) b ↔ one p y (a * b) := by unfold one; rw [Int.pow_mul]
theorem one_prod {p x y : Int} {n : Nat} (h1 : one p x n) (h2 : one p y n) : one p (x * y) n := by
  unfold one at *
  rw [Int.mul_pow]
  have := mul_cong h1 h2
  rwa [Int.mul_one] at this
/-- one of two factors is 1 -/
theorem one_left {p x y : Int} {n : Nat} (h : one p (x * y) n) (hx : one p x n) : one p y n := by
  unfold one at *
  rw [Int.mul_pow] at h
  have e : y ^ n - 1 = (x ^ n * y ^ n - 1) - (x ^ n - 1) * y ^ n := by grind
  rw [e]
  exact Int.dvd_sub h (Int.dvd_mul_of_dvd_left hx)
theorem one_sub {p y : Int} {a b : Nat} (h1 : one p y (a + b)) (h2 : one p y b) : one p y a := by
  unfold one at *
  rw [Int.pow_add] at h1
  have e : y ^ a - 1 = (y ^ a * y ^ b - 1) - y ^ a * (y ^ b - 1) := by grind
  rw [e]
  exact Int.dvd_sub h1 (Int.dvd_mul_of_dvd_right h2)
theorem one_mod {p y : Int} {a b : Nat} (h1 : one p y a) (h2 : one p y b) : one p y (a % b) := by
  have e : a = a % b + b * (a / b) := (Nat.mod_add_div a b).symm
  rw [e] at h1
  exact one_sub h1 (one_mul h2 _)
theorem one_gcd {p y : Int} (a b : Nat) : one p y a → one p y b → one p y (Nat.gcd a b) := by
  induction a, b using Nat.gcd.induction with
  | H0 n => intro _ h; rw [Nat.gcd_zero_left]; exact h
  | H1 m n hm ih =>
    intro h1 h2
    rw [Nat.gcd_rec]
    exact ih (one_mod h2 h1) h1
/-! primes among the natural numbers -/
abbrev NP (q : Nat) : Prop := Pr (q : Int)
theorem NP.two_le {q : Nat} (h : NP q) : 2 ≤ q := by have := h.two; omega
theorem NP.mul {q a b : Nat} (h : NP q) (d : q ∣ a * b) : q ∣ a ∨ q ∣ b := by
  have := Pr.mul (p := (q : Int)) h (a := (a : Int)) (b := (b : Int)) (by rw [← Int.natCast_mul]; exact Int.natCast_dvd_natCast.mpr d)
  exact this.imp Int.natCast_dvd_natCast.mp Int.natCast_dvd_natCast.mp
theorem NP.pow {q a : Nat} (h : NP q) : ∀ {n : Nat}, q ∣ a ^ n → q ∣ a
  | 0, d => by
    rw [Nat.pow_zero] at d
    have := Nat.le_of_dvd (by decide) d
    have := h.two_le
    omega
  | n + 1, d => by
    rw [Nat.pow_succ] at d
    exact (h.mul d).elim (NP.pow h) id
theorem NP.eq {q r : Nat} (h : NP q) (g : NP r) (d : q ∣ r) : q = r := by
  have h2 := h.two_le
  have g2 := g.two_le
  have le := Nat.le_of_dvd (by omega) d
  rcases Nat.lt_or_ge q r with z | z
  · exact absurd (Int.natCast_dvd_natCast.mpr d) (g.no (q : Int) (by omega) (by omega))
  · omega
theorem NP.gcd {q a : Nat} (h : NP q) (d : ¬ q ∣ a) : Nat.gcd a q = 1 := by
  have g1 := Nat.gcd_dvd_left a q
  have g2 := Nat.gcd_dvd_right a q
  have q2 := h.two_le
  have gp := Nat.gcd_pos_of_pos_right a (show 0 < q by omega)
  rcases Nat.lt_or_ge 1 (Nat.gcd a q) with z | z
  · exfalso
    have le := Nat.le_of_dvd (by omega) g2
    rcases Nat.lt_or_ge (Nat.gcd a q) q with y | y
    · exact h.no _ (by omega) (by omega) (Int.natCast_dvd_natCast.mpr g2)
    · have : Nat.gcd a q = q := by omega
      rw [this] at g1
      exact d g1
  · omega
/-- the least divisor from 2 on -/
def IsLd (n q : Nat) : Prop := 2 ≤ q ∧ q ∣ n ∧ ∀ d, 2 ≤ d → d < q → ¬ d ∣ n
theorem IsLd.prime {n q : Nat} (h : IsLd n q) : NP q := ⟨by have := h.1; omega, fun d d2 dq hd => by
  obtain ⟨e, rfl⟩ := Int.eq_ofNat_of_zero_le (show 0 ≤ d by omega)
  exact h.2.2 e (by omega) (by omega) (Nat.dvd_trans (Int.natCast_dvd_natCast.mp hd) h.2.1)⟩
theorem IsLd.uniq {n q r : Nat} (h : IsLd n q) (g : IsLd n r) : q = r := by
  rcases Nat.lt_trichotomy q r with z | z | z
  · exact absurd h.2.1 (g.2.2 q h.1 z)
  · exact z
  · exact absurd g.2.1 (h.2.2 r g.1 z)
theorem IsLd.le {n q : Nat} (h : IsLd n q) (h0 : 0 < n) : q ≤ n := Nat.le_of_dvd h0 h.2.1
theorem isLd_self {n : Nat} : IsLd n n ↔ NP n := by
  constructor
  · exact fun h => h.prime
  · intro h
    exact ⟨h.two_le, Nat.dvd_refl n, fun d d2 dn hd => h.no d (by omega) (by omega) (Int.natCast_dvd_natCast.mpr hd)⟩
theorem isLd_ex {n : Nat} (h : 2 ≤ n) : ∃ q, IsLd n q := by
  have key : ∀ k d, n - d ≤ k → 2 ≤ d → d ≤ n → (∀ e, 2 ≤ e → e < d → ¬ e ∣ n) → ∃ q, IsLd n q := by
    intro k
    induction k with
    | zero =>
      intro d h1 h2 h3 h4
      have : d = n := by omega
      subst this
      exact ⟨d, h2, Nat.dvd_refl d, h4⟩
    | succ k ih =>
      intro d h1 h2 h3 h4
      rcases Classical.em (d ∣ n) with q | q
      · exact ⟨d, h2, q, h4⟩
      · have dn : d ≠ n := fun z => q (z ▸ Nat.dvd_refl d)
        refine ih (d + 1) (by omega) (by omega) (by omega) fun e e2 e3 => ?_
        rcases (by omega : e < d ∨ e = d) with z | z
        · exact h4 e e2 z
        · rw [z]; exact q
  exact key n 2 (by omega) (by omega) h fun e e2 e3 => by omega
theorem strip (q : Nat) (hq : 2 ≤ q) : ∀ n : Nat, 0 < n → ∃ o m, n = q ^ o * m ∧ ¬ q ∣ m ∧ 0 < m := by
  intro n
  induction n using Nat.strongRecOn with
  | _ n ih =>
    intro h0
    rcases Classical.em (q ∣ n) with d | d
    · obtain ⟨k, rfl⟩ := d
      have k0 : 0 < k := Nat.pos_of_ne_zero fun z => by rw [z] at h0; simp at h0
      have lt : k < q * k := by
        have := Nat.mul_le_mul_right k hq
        omega
      obtain ⟨o, m, e, nd, m0⟩ := ih k lt k0
      refine ⟨o + 1, m, ?_, nd, m0⟩
      conv => lhs; rw [e]
      rw [Nat.pow_succ, Nat.mul_comm (q ^ o) q, Nat.mul_assoc]
    · exact ⟨0, n, by simp, d, h0⟩
theorem ne_root {p : Int} (h : Pr p) {d : Nat} (h0 : 0 < d) (hd : (d : Int) < p - 1) : ∃ x : Int, ¬ p ∣ x ∧ ¬ one p x d := by
  have p2 := h.two
  rcases Classical.em (∃ x : Int, ¬ p ∣ x ∧ ¬ one p x d) with q | q
  · exact q
  · exfalso
    have key := lag_pow (c := 1) h h0 (L := (List.range (p - 1).toNat).map fun k : Nat => (k : Int) + 1) (by
      rw [List.pairwise_map]
      refine List.Pairwise.imp_of_mem ?_ List.pairwise_lt_range
      intro i j hi hj hij d
      have hi := List.mem_range.mp hi
      have hj := List.mem_range.mp hj
      have e : (i : Int) + 1 - ((j : Int) + 1) = (i : Int) - j := by omega
      rw [e] at d
      have := small_dvd d (by omega) (by omega)
      omega) (fun x hx => by
      obtain ⟨k, hk, rfl⟩ := List.mem_map.mp hx
      have hk := List.mem_range.mp hk
      rcases Classical.em (one p ((k : Int) + 1) d) with z | z
      · exact z
      · exact absurd ⟨_, h.low (by omega), z⟩ q)
    simp at key
    omega
/-- for each divisor of p - 1 a number of just this order -/
theorem ord_ex {p : Int} (h : Pr p) : ∀ n : Nat, 0 < n → n ∣ (p - 1).toNat → ∃ g : Int, ¬ p ∣ g ∧ one p g n ∧ ∀ q, NP q → q ∣ n → ¬ one p g (n / q) := by
  have p2 := h.two
  intro n
  induction n using Nat.strongRecOn with
  | _ n ih =>
    intro n0 hn
    by_cases n1 : n = 1
    · subst n1
      refine ⟨1, fun d => ?_, by unfold one; simp, fun q hq d => ?_⟩
      · have := Int.le_of_dvd (by decide) d
        omega
      · have := Nat.le_of_dvd (by decide) d
        have := hq.two_le
        omega
    obtain ⟨q, hld⟩ := isLd_ex (show 2 ≤ n by omega)
    have hq := hld.prime
    have q2 := hq.two_le
    obtain ⟨o, m, e, nd, m0⟩ := strip q q2 n n0
    have o0 : 0 < o := Nat.pos_of_ne_zero fun z => by
      subst z
      rw [Nat.pow_zero, Nat.one_mul] at e
      exact nd (e ▸ hld.2.1)
    obtain ⟨k, rfl⟩ : ∃ k, o = k + 1 := ⟨o - 1, by omega⟩
    have qk : 0 < q ^ k := Nat.pow_pos (by omega)
    have e2 : n = q ^ k * (q * m) := by rw [e, Nat.pow_succ, Nat.mul_assoc]
    have mlt : m < n := by
      rw [e2]
      have h1 := Nat.mul_le_mul_right m q2
      have h2 := Nat.mul_le_mul_right (q * m) (show 1 ≤ q ^ k by omega)
      omega
    obtain ⟨g, g1, g2, g3⟩ := ih m mlt m0 (Nat.dvd_trans ⟨q ^ (k + 1), by rw [Nat.mul_comm]; exact e⟩ hn)
    -- a number of the order q ^ (k + 1)
    obtain ⟨B, hB⟩ := hn
    have hp1 : (p - 1).toNat = q ^ (k + 1) * (m * B) := by rw [hB, e, Nat.mul_assoc]
    have B0 : 0 < m * B := Nat.pos_of_ne_zero fun z => by rw [z, Nat.mul_zero] at hp1; omega
    have hd : (q ^ k * (m * B) : Nat) * q = (p - 1).toNat := by rw [hp1, Nat.pow_succ]; simp only [Nat.mul_comm, Nat.mul_assoc, Nat.mul_left_comm]
    have hd0 : 0 < q ^ k * (m * B) := Nat.mul_pos qk B0
    obtain ⟨x, x1, x2⟩ := ne_root h hd0 (by
      have := Nat.mul_le_mul_left (q ^ k * (m * B)) q2
      omega)
    let y : Int := x ^ (m * B)
    have y1 : one p y (q ^ (k + 1)) := by
      refine one_pow.mpr ?_
      rw [Nat.mul_comm, ← hp1]
      exact fermat h x1
    have y2 : ¬ one p y (q ^ k) := fun z => x2 (by
      have := one_pow.mp z
      rwa [Nat.mul_comm] at this)
    have ny : ¬ p ∣ y := h.pow x1
    refine ⟨g * y, fun d => (h.mul d).elim g1 ny, ?_, fun r hr hrn hone => ?_⟩
    · exact one_prod (one_dvd g2 ⟨q ^ (k + 1), by rw [Nat.mul_comm]; exact e⟩) (one_dvd y1 ⟨m, e⟩)
    · by_cases hrq : r = q
      · subst hrq
        have e3 : n / r = m * r ^ k := by
          rw [e2, Nat.mul_left_comm, Nat.mul_div_cancel_left _ (by omega), Nat.mul_comm]
        rw [e3] at hone
        have z := one_left hone (one_mul g2 _)
        have z2 := one_gcd _ _ z y1
        have e4 : Nat.gcd (m * r ^ k) (r ^ (k + 1)) = r ^ k := by
          rw [Nat.mul_comm m, Nat.pow_succ, Nat.gcd_mul_left, hq.gcd nd, Nat.mul_one]
        rw [e4] at z2
        exact y2 z2
      · have hrm : r ∣ m := by
          rw [e] at hrn
          rcases hr.mul hrn with z | z
          · exact absurd (hr.eq hq (hr.pow z)) hrq
          · exact z
        obtain ⟨c, rfl⟩ := hrm
        have r2 := hr.two_le
        have e3 : n / r = q ^ (k + 1) * c := by
          rw [e, Nat.mul_left_comm, Nat.mul_div_cancel_left _ (by omega)]
        rw [e3] at hone
        rw [Int.mul_comm] at hone
        have z := one_left hone (one_mul y1 _)
        have z2 := one_gcd _ _ z g2
        have e4 : Nat.gcd (q ^ (k + 1) * c) (r * c) = c := by
          have : Nat.gcd (q ^ (k + 1)) r = 1 := hr.gcd fun z => hrq (hr.eq hq (hr.pow z))
          rw [Nat.gcd_mul_right, this, Nat.one_mul]
        rw [e4] at z2
        have := g3 r hr ⟨c, rfl⟩
        rw [Nat.mul_div_cancel_left _ (by omega)] at this
        exact this z2
/-- powers that go through all rests but 0 -/
structure PRoot (p g : Int) : Prop where
  one : one p g (p - 1).toNat
  no : ∀ q, NP q → q ∣ (p - 1).toNat → ¬ Dv.one p g ((p - 1).toNat / q)
theorem proot_ex {p : Int} (h : Pr p) (h3 : 3 ≤ p) : ∃ g : Int, PRoot p g := by
  obtain ⟨g, _, g1, g2⟩ := ord_ex h (p - 1).toNat (by omega) (Nat.dvd_refl _)
  exact ⟨g, g1, g2⟩
theorem one_cong {p a b : Int} {n : Nat} (h : p ∣ a - b) (ha : one p a n) : one p b n := by
  unfold one at *
  have : ∀ n : Nat, p ∣ a ^ n - b ^ n := by
    intro n
    induction n with
    | zero => simp
    | succ n ih => rw [Int.pow_succ, Int.pow_succ]; exact mul_cong ih h
  have := Int.dvd_sub ha (this n)
  have e : a ^ n - 1 - (a ^ n - b ^ n) = b ^ n - 1 := by omega
  rwa [e] at this
theorem PRoot.cong {p a b : Int} (h : p ∣ a - b) (ha : PRoot p a) : PRoot p b := ⟨one_cong h ha.one, fun q hq hd z => ha.no q hq hd (one_cong (by have := Int.dvd_neg.mpr h; rwa [Int.neg_sub] at this) z)⟩
theorem one_pw {p g : Int} {n : Nat} (hp : 2 ≤ p) : one p g n ↔ pw g n p = 1 := by
  unfold one pw
  constructor
  · intro d
    have := Int.emod_eq_emod_iff_emod_sub_eq_zero.mpr (Int.emod_eq_zero_of_dvd d)
    rw [this, Int.emod_eq_of_lt (by decide) (by omega)]
  · intro e
    refine Int.dvd_of_emod_eq_zero (Int.emod_eq_emod_iff_emod_sub_eq_zero.mp ?_)
    rw [e, Int.emod_eq_of_lt (by decide) (by omega)]
/-- the order is p - 1: no less power is 1 -/
theorem PRoot.order {p g : Int} (h3 : 3 ≤ p) (h : PRoot p g) {d : Nat} (hd : Dv.one p g d) : (p - 1).toNat ∣ d := by
  have e1 := one_gcd _ _ h.one hd
  have dv := Nat.gcd_dvd_left (p - 1).toNat d
  rcases Nat.lt_or_ge (Nat.gcd (p - 1).toNat d) (p - 1).toNat with z | z
  · exfalso
    obtain ⟨k, hk⟩ := dv
    have k2 : 2 ≤ k := by
      rcases (by omega : k = 0 ∨ k = 1 ∨ 2 ≤ k) with q | q | q
      · rw [q, Nat.mul_zero] at hk; omega
      · rw [q, Nat.mul_one] at hk; omega
      · exact q
    obtain ⟨q, hq⟩ := isLd_ex k2
    have qp := hq.prime
    have q2 := qp.two_le
    obtain ⟨j, rfl⟩ := hq.2.1
    have e2 : (p - 1).toNat = q * (Nat.gcd (p - 1).toNat d * j) := by
      conv => lhs; rw [hk]
      simp only [Nat.mul_comm, Nat.mul_assoc, Nat.mul_left_comm]
    refine h.no q qp ⟨_, e2⟩ ?_
    have e3 : (p - 1).toNat / q = Nat.gcd (p - 1).toNat d * j := by
      conv => lhs; rw [e2]
      exact Nat.mul_div_cancel_left _ (by omega)
    rw [e3]
    exact one_mul e1 j
  · have := Nat.le_of_dvd (by omega) dv
    have e : Nat.gcd (p - 1).toNat d = (p - 1).toNat := by omega
    rw [← e]
    exact Nat.gcd_dvd_right _ _

/-! ### what a paper shows -/
theorem emod_dvd {a b p : Int} (h : a % p = b % p) : p ∣ a - b := Int.dvd_of_emod_eq_zero (Int.emod_eq_emod_iff_emod_sub_eq_zero.mp h)
theorem dvd_emod {a b p : Int} (h : p ∣ a - b) : a % p = b % p := Int.emod_eq_emod_iff_emod_sub_eq_zero.mpr (Int.emod_eq_zero_of_dvd h)
theorem PRoot.pow_ne {p g : Int} (h3 : 3 ≤ p) (h : PRoot p g) {k : Nat} (hk : k ≤ (p - 1).toNat) : ¬ p ∣ g ^ k := by
  intro d
  have d1 : p ∣ g ^ (p - 1).toNat := by
    have e : (p - 1).toNat = k + ((p - 1).toNat - k) := by omega
    rw [e, Int.pow_add]
    exact Int.dvd_mul_of_dvd_left d
  have := Int.dvd_sub d1 h.one
  rw [Int.sub_sub_self] at this
  have := Int.le_of_dvd (by decide) this
  omega
theorem PRoot.inj {p g : Int} (h3 : 3 ≤ p) (h : PRoot p g) {i j : Nat} (hij : i < j) (hj : j < (p - 1).toNat) : ¬ p ∣ g ^ j - g ^ i := by
  intro d
  have e1 : g ^ j - g ^ i = g ^ i * (g ^ (j - i) - 1) := by
    have : g ^ j = g ^ i * g ^ (j - i) := by rw [← Int.pow_add]; congr 1; omega
    rw [this, Int.mul_sub, Int.mul_one]
  rw [e1] at d
  have d2 : p ∣ g ^ ((p - 1).toNat - i) * (g ^ i * (g ^ (j - i) - 1)) := Int.dvd_mul_of_dvd_right d
  rw [← Int.mul_assoc, ← Int.pow_add, show (p - 1).toNat - i + i = (p - 1).toNat by omega] at d2
  have e2 : g ^ (p - 1).toNat * (g ^ (j - i) - 1) - (g ^ (p - 1).toNat - 1) * (g ^ (j - i) - 1) = g ^ (j - i) - 1 := by grind
  have d3 := Int.dvd_sub d2 (Int.dvd_mul_of_dvd_left (c := g ^ (j - i) - 1) h.one)
  rw [e2] at d3
  have := h.order h3 (d := j - i) d3
  have := Nat.le_of_dvd (by omega) this
  omega
theorem PRoot.all {p g : Int} (h3 : 3 ≤ p) (h : PRoot p g) {a : Int} (ha : ¬ p ∣ a) : ∃ k : Nat, k < (p - 1).toNat ∧ p ∣ g ^ k - a := by
  let f : Nat → Nat := fun k => (g ^ k % p - 1).toNat
  have val : ∀ k, k < (p - 1).toNat → ((f k : Nat) : Int) + 1 = g ^ k % p := fun k hk => by
    have r0 := Int.emod_nonneg (g ^ k) (show p ≠ 0 by omega)
    have : g ^ k % p ≠ 0 := fun z => h.pow_ne h3 (by omega) (Int.dvd_of_emod_eq_zero z)
    show (((g ^ k % p - 1).toNat : Nat) : Int) + 1 = _
    omega
  have lt : ∀ k, k < (p - 1).toNat → f k < (p - 1).toNat := fun k hk => by
    have := val k hk
    have := Int.emod_lt_of_pos (g ^ k) (show 0 < p by omega)
    omega
  have inj : ∀ i j, i < (p - 1).toNat → j < (p - 1).toNat → f i = f j → i = j := fun i j hi hj e => by
    have v1 := val i hi
    have v2 := val j hj
    rw [e, v2] at v1
    rcases Nat.lt_trichotomy i j with z | z | z
    · exact absurd (emod_dvd v1) (h.inj h3 z hj)
    · exact z
    · exact absurd (emod_dvd v1.symm) (h.inj h3 z hi)
  have r0 := Int.emod_nonneg a (show p ≠ 0 by omega)
  have r1 := Int.emod_lt_of_pos a (show 0 < p by omega)
  have rz : a % p ≠ 0 := fun z => ha (Int.dvd_of_emod_eq_zero z)
  have mem : (a % p - 1).toNat ∈ (List.range (p - 1).toNat).map f := (map_perm lt inj).mem_iff.mpr (List.mem_range.mpr (by omega))
  obtain ⟨k, hk, e⟩ := List.mem_map.mp mem
  have hk := List.mem_range.mp hk
  refine ⟨k, hk, emod_dvd ?_⟩
  have := val k hk
  omega
theorem PRoot.prime {p g : Int} (h3 : 3 ≤ p) (h : PRoot p g) : Pr p := by
  refine ⟨by omega, fun d d2 dp hd => ?_⟩
  obtain ⟨k, hk, e⟩ := h.all h3 (a := d) fun z => by
    have := Int.le_of_dvd (by omega) z
    omega
  have e1 : d ∣ g ^ k := by
    have := Int.dvd_add (Int.dvd_trans hd e) (Int.dvd_refl d)
    rwa [Int.sub_add_cancel] at this
  have e2 : d ∣ g ^ (p - 1).toNat := by
    rw [show (p - 1).toNat = k + ((p - 1).toNat - k) by omega, Int.pow_add]
    exact Int.dvd_mul_of_dvd_left e1
  have e3 := Int.dvd_sub e2 (Int.dvd_trans hd h.one)
  rw [Int.sub_sub_self] at e3
  have := Int.le_of_dvd (by decide) e3
  omega
/-! square roots -/
theorem Pr.pm {p x y : Int} (h : Pr p) (d : p ∣ x * x - y * y) : p ∣ x - y ∨ p ∣ x + y := by
  have e : x * x - y * y = (x - y) * (x + y) := by grind
  rw [e] at d
  exact h.mul d
theorem half_one {p y : Int} (h : Pr p) {n : Nat} (h2 : one p y (2 * n)) (h1 : ¬ one p y n) : p ∣ y ^ n + 1 := by
  have d : p ∣ y ^ n * y ^ n - 1 * 1 := by
    rw [← Int.pow_add, ← Nat.two_mul, Int.mul_one]
    exact h2
  rcases h.pm d with q | q
  · exact absurd q h1
  · exact q
structure TsI (p a x left by_ : Int) (t : Nat) : Prop where
  t0 : 1 ≤ t
  sq : p ∣ x * x - a * left
  lo : one p left (2 ^ (t - 1))
  neg : p ∣ by_ ^ (2 ^ (t - 1)) + 1
theorem neg_sq {p b : Int} {n : Nat} (h : p ∣ b ^ n + 1) : one p b (2 * n) := by
  unfold one
  rw [Nat.two_mul, Int.pow_add]
  have e : b ^ n * b ^ n - 1 = (b ^ n + 1) * (b ^ n - 1) := by grind
  rw [e]
  exact Int.dvd_mul_of_dvd_left h
theorem one_pow_cong {p b c : Int} {n : Nat} (h : p ∣ b - c) : p ∣ b ^ n - c ^ n := by
  induction n with
  | zero => simp
  | succ n ih => rw [Int.pow_succ, Int.pow_succ]; exact mul_cong ih h
theorem TsI.step {p a x left by_ : Int} {t s : Nat} (hp : Pr p) (h : TsI p a x left by_ t) (hs : one p left (2 ^ s)) (hm : ∀ r, r < s → ¬ one p left (2 ^ r)) (s0 : 0 < s) {st : Int} (hst : p ∣ st - by_ ^ (2 ^ (t - s - 1))) :
    s < t ∧ TsI p a (x * st % p) (left * (st * st % p) % p) (st * st % p) s := by
  have lt : s < t := by
    rcases Nat.lt_or_ge s t with z | z
    · exact z
    · exact absurd h.lo (hm (t - 1) (by have := h.t0; omega))
  have c1 : p ∣ st * st % p - st * st := by have := Int.dvd_neg.mpr (dvd_emod_sub (st * st) p); rwa [Int.neg_sub] at this
  have c2 : p ∣ x * st % p - x * st := by have := Int.dvd_neg.mpr (dvd_emod_sub (x * st) p); rwa [Int.neg_sub] at this
  have c3 : p ∣ left * (st * st % p) % p - left * (st * st) := by
    have h1 := Int.dvd_neg.mpr (dvd_emod_sub (left * (st * st % p)) p)
    rw [Int.neg_sub] at h1
    have h2 := Int.dvd_mul_of_dvd_right (a := p) (b := left) c1
    rw [Int.mul_sub] at h2
    have := Int.dvd_add h1 h2
    have e : left * (st * st % p) % p - left * (st * st % p) + (left * (st * st % p) - left * (st * st)) = left * (st * st % p) % p - left * (st * st) := by omega
    rwa [e] at this
  -- the new base
  have b1 : p ∣ st ^ (2 ^ s) + 1 := by
    have h1 := one_pow_cong (n := 2 ^ s) hst
    rw [← Int.pow_mul, ← Nat.pow_add] at h1
    have e : t - s - 1 + s = t - 1 := by omega
    rw [e] at h1
    have := Int.dvd_add h1 h.neg
    have e2 : st ^ 2 ^ s - by_ ^ 2 ^ (t - 1) + (by_ ^ 2 ^ (t - 1) + 1) = st ^ 2 ^ s + 1 := by omega
    rwa [e2] at this
  have es : 2 ^ s = 2 * 2 ^ (s - 1) := by
    obtain ⟨r, rfl⟩ : ∃ r, s = r + 1 := ⟨s - 1, by omega⟩
    rw [Nat.pow_succ]
    simp only [Nat.add_sub_cancel, Nat.mul_comm]
  have sqp : (st * st) ^ (2 ^ (s - 1)) = st ^ (2 ^ s) := by
    rw [es, Int.pow_mul, Int.pow_succ, Int.pow_succ, Int.pow_zero, Int.one_mul]
  refine ⟨lt, ⟨s0, ?_, ?_, ?_⟩⟩
  · have h1 := mul_cong c2 c2
    have h2 := Int.dvd_mul_of_dvd_left (c := st * st) h.sq
    have h3 := Int.dvd_mul_of_dvd_right (a := p) (b := a) c3
    have e : x * st % p * (x * st % p) - a * (left * (st * st % p) % p) = (x * st % p * (x * st % p) - x * st * (x * st)) + (x * x - a * left) * (st * st) - a * (left * (st * st % p) % p - left * (st * st)) := by
      generalize x * st % p = u
      generalize left * (st * st % p) % p = v
      grind
    rw [e]
    exact Int.dvd_sub (Int.dvd_add h1 h2) h3
  · -- the product of two that are -1
    have l1 : p ∣ left ^ (2 ^ (s - 1)) + 1 := half_one hp (by rw [← es]; exact hs) (hm (s - 1) (by omega))
    have l2 : p ∣ (left * (st * st)) ^ (2 ^ (s - 1)) - 1 := by
      rw [Int.mul_pow, sqp]
      generalize left ^ 2 ^ (s - 1) = u at *
      generalize st ^ 2 ^ s = v at *
      have e : u * v - 1 = (u + 1) * v - (v + 1) := by grind
      rw [e]
      exact Int.dvd_sub (Int.dvd_mul_of_dvd_left l1) b1
    have := one_pow_cong (n := 2 ^ (s - 1)) c3
    unfold one
    have := Int.dvd_add this l2
    have e : ∀ u v : Int, u - v + (v - 1) = u - 1 := fun u v => by omega
    rwa [e] at this
  · have := one_pow_cong (n := 2 ^ (s - 1)) c1
    rw [sqp] at this
    have := Int.dvd_add this b1
    have e : ∀ u v : Int, u - v + (v + 1) = u + 1 := fun u v => by omega
    rwa [e] at this
/-- the lesser one of two roots is the only one -/
theorem less_uniq {p r x a : Int} (h : Pr p) (r0 : 0 ≤ r) (r1 : 2 * r < p) (x0 : 0 ≤ x) (x1 : 2 * x < p) (hr : p ∣ r * r - a) (hx : p ∣ x * x - a) : r = x := by
  have d : p ∣ r * r - x * x := by
    have := Int.dvd_sub hr hx
    have e : r * r - a - (x * x - a) = r * r - x * x := by omega
    rwa [e] at this
  rcases h.pm d with q | q
  · have := small_dvd q (by omega) (by omega)
    omega
  · have := small_dvd q (by omega) (by omega)
    omega

/-! ### sums of whole parts, far -/
theorem flo_app (m a b : Int) (n : Nat) : ∀ k : Nat, flo (n + k) m a b = flo n m a b + flo k m a (b + a * n)
  | 0 => by show flo n m a b = flo n m a b + 0; omega
  | k + 1 => by
    have ih := flo_app m a b n k
    show flo (n + k) m a b + (a * ((n + k : Nat) : Int) + b) / m = flo n m a b + (flo k m a (b + a * n) + (a * (k : Int) + (b + a * n)) / m)
    have e : a * ((n + k : Nat) : Int) + b = a * (k : Int) + (b + a * n) := by rw [Int.natCast_add, Int.mul_add]; omega
    rw [ih, e]; omega
theorem flo_up {m : Int} (hm : 0 < m) (a b q r : Int) (n : Nat) : flo n m (a + q * m) (b + r * m) = flo n m a b + q * sumN (fun k => (k : Int)) n + r * n := by
  have key : ∀ k : Nat, ((a + q * m) * k + (b + r * m)) / m = (a * k + b) / m + (q * k + r) := fun k => by
    have e : (a + q * m) * (k : Int) + (b + r * m) = (a * k + b) + (q * k + r) * m := by
      rw [Int.add_mul, Int.add_mul, Int.mul_right_comm q m]; omega
    rw [e, Int.add_mul_ediv_right _ _ (by omega)]
  unfold flo
  rw [sumN_congr fun k _ => key k, sumN_add (fun k => (a * (k : Int) + b) / m) (fun k => q * (k : Int) + r), sumN_add (fun k => q * (k : Int)) (fun _ => r), sumN_mul, sumN_const, ← Int.add_assoc]
theorem flo_scale {g : Int} (hg : 0 < g) (m a b : Int) (n : Nat) : flo n (g * m) (g * a) (g * b) = flo n m a b := by
  unfold flo
  refine sumN_congr fun k _ => ?_
  have e : g * a * (k : Int) + g * b = g * (a * k + b) := by rw [Int.mul_add, Int.mul_assoc]
  rw [e, Int.mul_ediv_mul_of_pos _ _ hg]
theorem sumN_turn (f : Nat → Int) : ∀ n : Nat, sumN (fun k => f (n - 1 - k)) n = sumN f n
  | 0 => rfl
  | n + 1 => by
    rw [sumN_front]
    show f (n + 1 - 1 - 0) + sumN (fun k => f (n + 1 - 1 - (k + 1))) n = sumN f n + f n
    have e : sumN (fun k => f (n + 1 - 1 - (k + 1))) n = sumN (fun k => f (n - 1 - k)) n := sumN_congr fun k _ => by congr 1; omega
    rw [e, sumN_turn f n, show n + 1 - 1 - 0 = n by omega]; omega
theorem flo_rev (m a b : Int) (n : Nat) : flo n m (-a) (b + a * ((n : Int) - 1)) = flo n m a b := by
  rw [show flo n m a b = sumN (fun k => (a * (k : Int) + b) / m) n from rfl, ← sumN_turn]
  unfold flo
  refine sumN_congr fun k hk => ?_
  have e : -a * (k : Int) + (b + a * ((n : Int) - 1)) = a * ((n - 1 - k : Nat) : Int) + b := by
    have : ((n - 1 - k : Nat) : Int) = (n : Int) - 1 - k := by omega
    rw [this, Int.mul_sub a ((n : Int) - 1) k, Int.neg_mul]; omega
  rw [e]
theorem flo_neg1 {m : Int} (hm : 0 < m) (x : Int) : (m - 1 - x) / m = -(x / m) := by
  have h1 := Int.emod_add_mul_ediv x m
  have h2 := Int.emod_nonneg x (show m ≠ 0 by omega)
  have h3 := Int.emod_lt_of_pos x hm
  have e : m - 1 - x = (m - 1 - x % m) + m * (-(x / m)) := by rw [Int.mul_neg]; omega
  rw [e, Int.add_mul_ediv_left _ _ (by omega), Int.ediv_eq_zero_of_lt (by omega) (by omega)]; omega
theorem flo_neg {m : Int} (hm : 0 < m) (a b : Int) (n : Nat) : flo n m (-a) (m - 1 - b) = -flo n m a b := by
  have e : ∀ k : Nat, (-a * (k : Int) + (m - 1 - b)) / m = -1 * ((a * k + b) / m) := fun k => by
    have := flo_neg1 hm (a * k + b)
    rw [show -a * (k : Int) + (m - 1 - b) = m - 1 - (a * k + b) by rw [Int.neg_mul]; omega, this]; omega
  unfold flo
  rw [sumN_congr fun k _ => e k, sumN_mul]; omega
theorem flo_list (m a b n : Int) (hn : 0 ≤ n) (k : Nat) : ((List.range k).map fun i : Nat => (a * (n + (i : Int)) + b) / m).sum = flo k m a (b + a * (n.toNat : Int)) := by
  rw [sumN_list (fun i : Nat => (a * (n + (i : Int)) + b) / m)]
  unfold flo
  refine sumN_congr fun i _ => ?_
  rw [Int.toNat_of_nonneg hn, Int.mul_add]
  congr 1; omega
theorem flo_upN {n m : Int} (n0 : 0 ≤ n) (hm : 0 < m) (a b q r : Int) : flo n.toNat m (a + q * m) (b + r * m) = flo n.toNat m a b + q * (n * (n - 1)).fdiv 2 + r * n := by
  have t := tri_eq n.toNat
  rw [Int.toNat_of_nonneg n0] at t
  rw [flo_up hm, t, Int.toNat_of_nonneg n0]
theorem flo_dn1 {n m : Int} (n0 : 0 ≤ n) (hm : 0 < m) (a b : Int) : flo n.toNat m (a - m) b = flo n.toNat m a b - (n * (n - 1)).fdiv 2 := by
  have := flo_upN n0 hm a b (-1) 0
  rw [show a + -1 * m = a - m by omega, show b + 0 * m = b by omega] at this
  rw [this]; omega
theorem flo_dn2 {n m : Int} (n0 : 0 ≤ n) (hm : 0 < m) (a b : Int) : flo n.toNat m a (b - m) = flo n.toNat m a b - n := by
  have := flo_upN n0 hm a b 0 (-1)
  rw [show a + 0 * m = a by omega, show b + -1 * m = b - m by omega] at this
  rw [this]; omega
theorem flo_revN {n : Int} (n0 : 0 ≤ n) (m a b : Int) : flo n.toNat m (-a) (b + a * (n - 1)) = flo n.toNat m a b := by
  have := flo_rev m a b n.toNat
  rw [Int.toNat_of_nonneg n0] at this
  exact this
theorem flo_appN {n k : Int} (n0 : 0 ≤ n) (k0 : 0 ≤ k) (m a b : Int) : flo (n + k).toNat m a b = flo n.toNat m a b + flo k.toNat m a (b + a * n) := by
  have := flo_app m a b n.toNat k.toNat
  rw [Int.toNat_of_nonneg n0] at this
  rw [← this]; congr 1; omega


def m__law_mixed : F := ⟨3, 4, (.cons (.asg (.nm 3) (.bin .mod (.bin .mul (.bin .add (.bin .add (.bin .add (.var 0) (.bin .mul (.bin .mul (.int 7) (.var 1)) (.var 1))) (.bin .mul (.int 13) (.var 1))) (.int 5)) (.int 48271)) (.int 2147483647))) (.cons (.asg (.nm 3) (.bin .mod (.bin .mul (.var 3) (.var 3)) (.int 2147483629))) (.cons (.ret (.bin .mod (.bin .mul (.var 3) (.int 39373)) (.var 2))) .nil)))⟩
def sp__law_mixed : FSpec := fun ds Q => match ds with
  | [.int _, .int k, .int p] => (0 ≤ k ∧ k < 2 ^ 30) ∧ (0 < p ∧ p < 2 ^ 62) ∧ ∀ v : Int, 0 ≤ v → v < p → Q (.ret (.v .fro (.int v)))
  | _ => False
theorem run__law_mixed : ∀ ds Q, sp__law_mixed ds Q → m__law_mixed.run ds Q := by
  intro ds Q h
  unfold sp__law_mixed at h
  split at h
  · rename_i c k p
    obtain ⟨⟨h0, h1⟩, ⟨hp, hp2⟩, h⟩ := h
    have zk : Sz 30 k := ⟨fits_of (by omega)⟩
    have x0 : 0 ≤ ((c + 7 * k * k + 13 * k + 5) * 48271).fmod 2147483647 := Int.fmod_nonneg_of_pos _ (by decide)
    have x1 : ((c + 7 * k * k + 13 * k + 5) * 48271).fmod 2147483647 < 2147483647 := Int.fmod_lt_of_pos _ (by decide)
    have zx : Sz 31 (((c + 7 * k * k + 13 * k + 5) * 48271).fmod 2147483647) := ⟨fits_of (by omega)⟩
    simp [m__law_mixed, run_def]
    refine ⟨by omega, ?_⟩
    exact h _ (Int.fmod_nonneg_of_pos _ hp) (Int.fmod_lt_of_pos _ hp)
  · exact h.elim

def m__law_draws : F := ⟨3, 6, (.cons (.asg (.nm 3) (.int 0)) (.cons (.iff (.cmp .ge (.var 0) (.bin .pow (.int 10) (.int 18))) (.cons (.asg (.nm 3) (.bin .sub (.var 0) (.bin .pow (.int 10) (.int 18)))) .nil) .nil) (.cons (.asg (.nm 4) (.lst .nil)) (.cons (.for (.nm 5) (.range1 (.bi .len (.cons (.var 1) .nil))) (.cons (.iff (.cmp .gt (.var 3) (.int 1)) (.cons (.app 4 (.bin .mod (.var 3) (.idx (.var 1) (.var 5)))) (.cons (.asg (.nm 3) (.bin .fdiv (.var 3) (.idx (.var 1) (.var 5)))) .nil)) (.cons (.app 4 (.bin .mod (.call "_law_mixed" sp__law_mixed (.cons (.var 0) (.cons (.var 5) (.cons (.var 2) .nil)))) (.idx (.var 1) (.var 5)))) .nil)) .nil)) (.cons (.retv 4) .nil)))))⟩
def sp__law_draws : FSpec := fun ds Q => match ds with
  | [.int _, .lst ws, .int p] => (match intsOf ws with
    | some w => (w.length ≤ 1000000 ∧ wOk w = true) ∧ (0 < p ∧ p < 2 ^ 62) ∧ allR w fun xs => Q (.ret (.n .fro (.lst (xs.map .int))))
    | none => False)
  | _ => False
theorem run__law_draws : ∀ ds Q, sp__law_draws ds Q → m__law_draws.run ds Q := by
  intro ds Q h
  unfold sp__law_draws at h
  split at h
  · rename_i c ws p
    split at h
    case h_2 => exact h.elim
    rename_i w ew
    obtain rfl := intsOf_eq ew
    obtain ⟨⟨hl, hw0⟩, hp, h⟩ := h
    have hw : ∀ x ∈ w, 0 < x ∧ x < lim600 := fun x hx => wOk_mem hw0 hx
    simp [m__law_draws, run_def]
    have hib : ib (w.length : Int) := by constructor <;> omega
    split <;> refine ⟨hib, ?_⟩ <;>
    refine for_range (I := fun i e => ∃ (left : Int) (xs : List Int) (s : Sl), inR xs (w.take i) ∧ e = [.v .fro (.int c), .v .arg (.lst (w.map .int)), .v .fro (.int p), .v .fro (.int left), .o .fro (.lst (xs.map .int)), s]) ⟨_, [], _, trivial, rfl⟩ ?_ ?_
    all_goals first
      | (rintro e ⟨left, xs, s, hx, rfl⟩
         simp at hx
         simp
         exact h.to hx)
      | (rintro i e K hi ⟨left, xs, s, hx, rfl⟩ hK
         have hi' : i < w.length := by omega
         have hg : w[i]? = some w[i] := by simp [hi']
         obtain ⟨h1, h2⟩ := hw w[i] (List.getElem_mem hi')
         have hxl : xs.length < line := by have := hx.len; simp [line] at this ⊢; omega
         have ht : w.take (i + 1) = w.take i ++ [w[i]] := by rw [List.take_add_one, hg]; rfl
         have step : ∀ v : Int, 0 ≤ v → v < w[i] → inR (xs ++ [v]) (w.take (i + 1)) := fun v a b => by rw [ht]; exact hx.snoc a b
         have hd : divOk w[i] := lim_div h1 h2
         simp [atI, ixN, hi', callW, sp__law_mixed]
         split
         · refine ⟨by omega, hxl, hd, ?_⟩
           refine hK _ ⟨_, xs ++ [left.fmod w[i]], _, step _ (Int.fmod_nonneg_of_pos _ h1) (Int.fmod_lt_of_pos _ h1), by simp only [List.map_append, List.map_cons, List.map_nil]; rfl⟩
         · refine ⟨by omega, hp, fun v v0 v1 => ⟨by omega, hxl, ?_⟩⟩
           exact hK _ ⟨_, xs ++ [v.fmod w[i]], _, step _ (Int.fmod_nonneg_of_pos _ h1) (Int.fmod_lt_of_pos _ h1), by simp only [List.map_append, List.map_cons, List.map_nil]; rfl⟩)
  · exact h.elim

def m__law_count : F := ⟨2, 5, (.cons (.asg (.nm 2) (.call "_law_draws" sp__law_draws (.cons (.var 0) (.cons (.bin .add (.lst (.cons (.int 5) .nil)) (.bin .mul (.lst (.cons (.bin .pow (.int 10) (.int 8)) .nil)) (.int 8))) (.cons (.var 1) .nil))))) (.cons (.frz 2) (.cons (.asg (.nm 3) (.int 0)) (.cons (.for (.nm 4) (.seq (.sli (.var 2) (.some (.int 1)) .none)) (.cons (.asg (.nm 3) (.bin .add (.bin .mul (.var 3) (.bin .pow (.int 10) (.int 8))) (.var 4))) .nil)) (.cons (.ret (.bin .add (.int 1) (.bin .mod (.var 3) (.idx (.lst (.cons (.int 12) (.cons (.int 200) (.cons (.bin .pow (.int 10) (.int 9)) (.cons (.bin .pow (.int 10) (.int 20)) (.cons (.bin .sub (.bin .pow (.int 10) (.int 60)) (.int 1)) .nil)))))) (.idx (.var 2) (.int 0)))))) .nil)))))⟩
def sp__law_count : FSpec := fun ds Q => match ds with
  | [.int _, .int p] => (0 < p ∧ p < 2 ^ 62) ∧ ∀ v : Int, 0 < v → v < 10 ^ 60 → Q (.ret (.v .fro (.int v)))
  | _ => False
theorem run__law_count : ∀ ds Q, sp__law_count ds Q → m__law_count.run ds Q := by
  intro ds Q h
  unfold sp__law_count at h
  split at h
  · rename_i c p
    obtain ⟨hp, h⟩ := h
    simp [m__law_count, run_def, sp__law_draws, List.replicate]
    refine ⟨hp, allR_of fun xs hx => ?_⟩
    rw [cut_map]
    refine for_ints (I := fun _ e => ∃ (v : Int) (s : Sl), e = [.v .fro (.int c), .v .fro (.int p), .v .fro (.lst (xs.map .int)), .v .fro (.int v), s]) ⟨_, _, rfl⟩ ?_ ?_
    · rintro i n e K hn ⟨v, s, rfl⟩ hK
      simp
      exact hK _ ⟨_, _, rfl⟩
    · rintro e ⟨v, s, rfl⟩
      simp only [inR_cons_iff, inR_nil_iff] at hx
      obtain ⟨x0, _, rfl, ⟨a0, b0⟩, x1, _, rfl, -, x2, _, rfl, -, x3, _, rfl, -, x4, _, rfl, -, x5, _, rfl, -, x6, _, rfl, -, x7, _, rfl, -, x8, _, rfl, -, rfl⟩ := hx
      have fin : ∀ m : Int, 0 < m → m ≤ 10 ^ 60 - 1 → Q (.ret (.v .fro (.int (1 + v.fmod m)))) := fun m m0 m1 => by
        have a := Int.fmod_nonneg_of_pos v m0
        have b := Int.fmod_lt_of_pos v m0
        exact h _ (by omega) (by omega)
      have e0 : x0 = 0 ∨ x0 = 1 ∨ x0 = 2 ∨ x0 = 3 ∨ x0 = 4 := by omega
      rcases e0 with rfl | rfl | rfl | rfl | rfl
      · simp [atI, ixN]
        exact fin 12 (by decide) (by decide)
      · simp [atI, ixN]
        exact fin 200 (by decide) (by decide)
      · simp [atI, ixN]
        exact fin (10 ^ 9) (by decide) (by decide)
      · simp [atI, ixN]
        exact fin (10 ^ 20) (by decide) (by decide)
      · simp [atI, ixN]
        exact fin (10 ^ 60 - 1) (by decide) (by decide)
  · exact h.elim

def m__law_far : F := ⟨2, 5, (.cons (.asg (.nm 2) (.call "_law_draws" sp__law_draws (.cons (.var 0) (.cons (.bin .add (.bin .add (.lst (.cons (.int 5) .nil)) (.bin .mul (.lst (.cons (.bin .pow (.int 10) (.int 8)) .nil)) (.int 8))) (.lst (.cons (.int 2) .nil))) (.cons (.var 1) .nil))))) (.cons (.frz 2) (.cons (.asg (.nm 3) (.int 0)) (.cons (.for (.nm 4) (.seq (.sli (.var 2) (.some (.int 1)) (.some (.int 9)))) (.cons (.asg (.nm 3) (.bin .add (.bin .mul (.var 3) (.bin .pow (.int 10) (.int 8))) (.var 4))) .nil)) (.cons (.asg (.nm 3) (.bin .mod (.var 3) (.idx (.lst (.cons (.int 13) (.cons (.int 201) (.cons (.bin .pow (.int 10) (.int 9)) (.cons (.bin .pow (.int 10) (.int 20)) (.cons (.bin .pow (.int 10) (.int 60)) .nil)))))) (.idx (.var 2) (.int 0))))) (.cons (.frz 3) (.cons (.ret (.bin .mul (.var 3) (.bin .sub (.int 1) (.bin .mul (.int 2) (.idx (.var 2) (.int 9)))))) .nil)))))))⟩
def sp__law_far : FSpec := fun ds Q => match ds with
  | [.int _, .int p] => (0 < p ∧ p < 2 ^ 62) ∧ ∀ v : Int, -(10 ^ 60) < v → v < 10 ^ 60 → Q (.ret (.v .fro (.int v)))
  | _ => False
theorem run__law_far : ∀ ds Q, sp__law_far ds Q → m__law_far.run ds Q := by
  intro ds Q h
  unfold sp__law_far at h
  split at h
  · rename_i c p
    obtain ⟨hp, h⟩ := h
    simp [m__law_far, run_def, sp__law_draws, List.replicate]
    refine ⟨hp, allR_of fun xs hx => ?_⟩
    rw [cut_map]
    refine for_ints (I := fun _ e => ∃ (v : Int) (s : Sl), e = [.v .fro (.int c), .v .fro (.int p), .v .fro (.lst (xs.map .int)), .v .fro (.int v), s]) ⟨_, _, rfl⟩ ?_ ?_
    · rintro i n e K hn ⟨v, s, rfl⟩ hK
      simp
      exact hK _ ⟨_, _, rfl⟩
    · rintro e ⟨v, s, rfl⟩
      simp only [inR_cons_iff, inR_nil_iff] at hx
      obtain ⟨x0, _, rfl, ⟨a0, b0⟩, x1, _, rfl, -, x2, _, rfl, -, x3, _, rfl, -, x4, _, rfl, -, x5, _, rfl, -, x6, _, rfl, -, x7, _, rfl, -, x8, _, rfl, -, x9, _, rfl, ⟨a9, b9⟩, rfl⟩ := hx
      have e9 : x9 = 0 ∨ x9 = 1 := by omega
      have z9 : Sz 4 (1 - 2 * x9) := ⟨fits_of (by omega)⟩
      have fin : ∀ m : Int, 0 < m → m ≤ 10 ^ 60 → Q (.ret (.v .fro (.int (v.fmod m * (1 - 2 * x9))))) := fun m m0 m1 => by
        have a := Int.fmod_nonneg_of_pos v m0
        have b := Int.fmod_lt_of_pos v m0
        refine h _ ?_ ?_
        · rcases e9 with rfl | rfl <;> omega
        · rcases e9 with rfl | rfl <;> omega
      have e0 : x0 = 0 ∨ x0 = 1 ∨ x0 = 2 ∨ x0 = 3 ∨ x0 = 4 := by omega
      rcases e0 with rfl | rfl | rfl | rfl | rfl
      · simp [atI, ixN]
        have := fin 13 (by decide) (by decide)
        exact this
      · simp [atI, ixN]
        have := fin 201 (by decide) (by decide)
        exact this
      · simp [atI, ixN]
        have := fin (10 ^ 9) (by decide) (by decide)
        exact this
      · simp [atI, ixN]
        have := fin (10 ^ 20) (by decide) (by decide)
        exact this
      · simp [atI, ixN]
        have := fin (10 ^ 60) (by decide) (by decide)
        exact this
  · exact h.elim

def m_check_sum : F := ⟨2, 2, (.cons (.iff (.orE (.cons (.cmp .lt (.var 0) (.int 0)) (.cons (.cmp .lt (.var 1) (.int 1)) .nil))) (.cons (.raise "NoCount" .none) .nil) .nil) .nil)⟩
def sp_check_sum : FSpec := fun ds Q => match ds with
  | [.int n, .int m] => if n < 0 ∨ m < 1 then Q (no "NoCount") else Q (.ret (.v .fro .non))
  | _ => False
theorem run_check_sum : ∀ ds Q, sp_check_sum ds Q → m_check_sum.run ds Q := by
  intro ds Q h
  unfold sp_check_sum at h
  split at h
  · rename_i n m
    simp [m_check_sum, run_def]
    by_cases h1 : n < 0
    · simp [h1] at h ⊢
      exact h
    · by_cases h2 : m < 1
      · simp [h1, h2] at h ⊢
        exact h
      · simp [h1, h2] at h ⊢
        exact h
  · exact h.elim

def m_sum_rows : F := ⟨4, 9, (.cons (.expr (.call "check_sum" sp_check_sum (.cons (.var 0) (.cons (.var 1) .nil)))) (.cons (.asg (.nm 4) (.lst .nil)) (.cons (.asg (.nm 5) (.bl true)) (.cons (.whl (.var 5) (.cons (.asg (.nm 6) (.bin .add (.bin .mul (.bin .fdiv (.bin .mul (.var 0) (.bin .sub (.var 0) (.int 1))) (.int 2)) (.bin .fdiv (.var 2) (.var 1))) (.bin .mul (.var 0) (.bin .fdiv (.var 3) (.var 1))))) (.cons (.app 4 (.tup (.cons (.var 0) (.cons (.var 1) (.cons (.var 2) (.cons (.var 3) (.cons (.var 6) .nil))))))) (.cons (.asg (.nm 7) (.bin .mod (.var 2) (.var 1))) (.cons (.asg (.nm 8) (.bin .add (.bin .mul (.var 7) (.var 0)) (.bin .mod (.var 3) (.var 1)))) (.cons (.asg (.nm 5) (.cmp .ge (.var 8) (.var 1))) (.cons (.asg (.t4 0 1 2 3) (.tup (.cons (.bin .fdiv (.var 8) (.var 1)) (.cons (.var 7) (.cons (.var 1) (.cons (.bin .mod (.var 8) (.var 1)) .nil)))))) .nil))))))) (.cons (.retv 4) .nil)))))⟩
def sp_sum_rows : FSpec := fun ds Q => match ds with
  | [.int n, .int m, .int a, .int b] => if n < 0 ∨ m < 1 then Q (no "NoCount") else (fits 2000 n ∧ fits 2000 m ∧ fits 2000 a ∧ fits 2000 b) ∧ Q (.ret (.n .fro (.lst ((srows n m a b).map rowD))))
  | _ => False
theorem run_sum_rows : ∀ ds Q, sp_sum_rows ds Q → m_sum_rows.run ds Q := by
  intro ds Q h
  unfold sp_sum_rows at h
  split at h
  case h_2 => exact h.elim
  rename_i n m a b
  by_cases hc : n < 0 ∨ m < 1
  · rw [if_pos hc] at h
    simp [m_sum_rows, run_def, sp_check_sum]
    rw [if_pos hc]
    exact h
  rw [if_neg hc] at h
  obtain ⟨⟨fn, fm, fa, fb⟩, h⟩ := h
  have hn : 0 ≤ n := by omega
  have hm : 0 < m := by omega
  simp [m_sum_rows, run_def, sp_check_sum]
  rw [if_neg hc]
  have hl := Nat.le_trans (srows_len m.toNat n m a b (Nat.le_refl _) hm hn) (cf_len hm fm)
  generalize hT : srows n m a b = T at *
  refine whl_by (α := (Int × Int × Int × Int) × List (Int × Int × Int × Int × Int) × Bool × Sl × Sl × Sl)
    (fun p => [.v .fro (.int p.1.1), .v .fro (.int p.1.2.1), .v .fro (.int p.1.2.2.1), .v .fro (.int p.1.2.2.2), .o .fro (.lst (p.2.1.map rowD)), .v .fro (.bl p.2.2.1), p.2.2.2.1, p.2.2.2.2.1, p.2.2.2.2.2])
    (fun p => if p.2.2.1 = true then SumI T p.1.1 p.1.2.1 p.1.2.2.1 p.1.2.2.2 p.2.1 else p.2.1 = T)
    (fun p => if p.2.2.1 = true then p.1.2.1.toNat + 1 else 0) ((n, m, a, b), [], true, .e, .e, .e) rfl ?_ ?_
  · exact ⟨hn, hm, fn, fm, fa, fb, by rw [← hT]; rfl⟩
  · rintro ⟨⟨n', m', a', b'⟩, qs, g, s6, s7, s8⟩ K hI hK
    cases g with
    | false =>
      have hI : qs = T := hI
      subst hI
      simp
      exact h
    | true =>
      have hI : SumI T n' m' a' b' qs := hI
      obtain ⟨n0, m0, fn, fm, fa, fb, eq⟩ := hI
      have zn : Sz 2000 n' := ⟨fn⟩
      have zm : Sz 2000 m' := ⟨fm⟩
      have za : Sz 2000 a' := ⟨fa⟩
      have zb : Sz 2000 b' := ⟨fb⟩
      have a0 := Int.emod_nonneg a' (show m' ≠ 0 by omega)
      have a1 := Int.emod_lt_of_pos a' m0
      have b0 := Int.emod_nonneg b' (show m' ≠ 0 by omega)
      have b1 := Int.emod_lt_of_pos b' m0
      have hln : qs.length < 16777216 := by
        have := congrArg List.length eq
        rw [List.length_append] at this
        omega
      have ln : 0 ≤ a' % m' * n' := Int.mul_nonneg a0 n0
      have h0 : 0 ≤ a' % m' * n' + b' % m' := by omega
      simp [hln, show m' ≠ 0 by omega, fmod_pos m0, fdiv_pos m0]
      rw [srows_eq m0 n0] at eq
      have key := hK (((a' % m' * n' + b' % m') / m', a' % m', m', (a' % m' * n' + b' % m') % m'), qs ++ [(n', m', a', b', moreOf n' m' a' b')], decide (m' ≤ a' % m' * n' + b' % m'), .v .fro (.int (moreOf n' m' a' b')), .v .fro (.int (a' % m')), .v .fro (.int (a' % m' * n' + b' % m'))) ?_ ?_
      · have e8 : (a' % m' * n' + b') % m' = (a' % m' * n' + b' % m') % m' := by rw [Int.add_emod, Int.add_emod (a' % m' * n') (b' % m'), Int.emod_emod]
        have key := key
        simp [rowD, moreOf] at key
        exact key
      · show (if decide (m' ≤ a' % m' * n' + b' % m') = true then (a' % m').toNat + 1 else 0) < m'.toNat + 1
        split <;> omega
      · by_cases hc : m' ≤ a' % m' * n' + b' % m'
        · rw [if_pos hc] at eq
          show (if decide (m' ≤ a' % m' * n' + b' % m') = true then _ else _)
          rw [if_pos (by simpa using hc)]
          have la : 0 < a' % m' := by
            rcases Int.lt_or_eq_of_le a0 with z | z
            · exact z
            · exfalso
              rw [← z, Int.zero_mul] at hc
              omega
          refine ⟨Int.ediv_nonneg h0 (by omega), la, ?_, ?_, fm, ?_, by rw [← eq, List.append_assoc]; rfl⟩
          · refine fits_nat fn (Int.ediv_nonneg h0 (by omega)) ?_
            have u1 : (a' % m' * n' + b' % m') / m' < n' + 1 := by
              rw [Int.ediv_lt_iff_lt_mul m0]
              have : a' % m' * n' ≤ (m' - 1) * n' := Int.mul_le_mul_of_nonneg_right (by omega) (by omega)
              rw [Int.sub_mul] at this
              rw [Int.add_mul, Int.mul_comm n' m']
              omega
            show (a' % m' * n' + b' % m') / m' ≤ n'
            omega
          · exact fits_nat fm a0 (Int.le_of_lt a1)
          · exact fits_nat fm (Int.emod_nonneg _ (by omega)) (Int.le_of_lt (Int.emod_lt_of_pos _ m0))
        · rw [if_neg hc] at eq
          show (if decide (m' ≤ a' % m' * n' + b' % m') = true then _ else _)
          rw [if_neg (by simpa using hc)]
          exact eq

def m_whole_sum : F := ⟨4, 5, (.cons (.ret (.bi .sum (.cons (.comp (.nm 4) (.seq (.call "sum_rows" sp_sum_rows (.cons (.var 0) (.cons (.var 1) (.cons (.var 2) (.cons (.var 3) .nil)))))) .none (.idx (.var 4) (.int 4))) .nil))) .nil)⟩
def sp_whole_sum : FSpec := fun ds Q => match ds with
  | [.int n, .int m, .int a, .int b] => if n < 0 ∨ m < 1 then Q (no "NoCount") else (fits 2000 n ∧ fits 2000 m ∧ fits 2000 a ∧ fits 2000 b) ∧ Q (.ret (.v .fro (.int (flo n.toNat m a b))))
  | _ => False
theorem run_whole_sum : ∀ ds Q, sp_whole_sum ds Q → m_whole_sum.run ds Q := by
  intro ds Q h
  unfold sp_whole_sum at h
  split at h
  case h_2 => exact h.elim
  rename_i n m a b
  by_cases hc : n < 0 ∨ m < 1
  · rw [if_pos hc] at h
    simp [m_whole_sum, run_def, sp_sum_rows]
    rw [if_pos hc]
    exact h
  rw [if_neg hc] at h
  obtain ⟨hf, h⟩ := h
  have hn : 0 ≤ n := by omega
  have hm : 0 < m := by omega
  have hl := Nat.le_trans (srows_len m.toNat n m a b (Nat.le_refl _) hm hn) (cf_len hm hf.2.1)
  have hs := srows_sum m.toNat n m a b (Nat.le_refl _) hm hn
  simp [m_whole_sum, run_def, sp_sum_rows]
  rw [if_neg hc]
  refine ⟨hf, ?_⟩
  simp [notOwn]
  refine ⟨by omega, ?_⟩
  refine compL_map rowD (fun q => .int q.2.2.2.2) (fun q => rfl) (fun q K K2 hq hK => ?_) ?_
  · simp [rowD, atI, ixN]
    exact hK
  · simp [intsOf_map, hs]
    exact h

def m__law_great : F := ⟨2, 5, (.cons (.asg (.nm 2) (.call "_law_draws" sp__law_draws (.cons (.var 0) (.cons (.bin .add (.lst (.cons (.int 8) (.cons (.int 2) .nil))) (.bin .mul (.lst (.cons (.bin .pow (.int 10) (.int 8)) .nil)) (.int 17))) (.cons (.var 1) .nil))))) (.cons (.frz 2) (.cons (.asg (.nm 3) (.int 0)) (.cons (.for (.nm 4) (.seq (.sli (.var 2) (.some (.int 2)) .none)) (.cons (.asg (.nm 3) (.bin .add (.bin .mul (.var 3) (.bin .pow (.int 10) (.int 8))) (.var 4))) .nil)) (.cons (.asg (.nm 3) (.bin .mod (.var 3) (.bin .mul (.bin .mul (.bin .pow (.int 10) (.int 64)) (.bin .pow (.int 10) (.int 64))) (.int 100)))) (.cons (.ret (.bin .mul (.var 3) (.bin .sub (.int 1) (.bin .mul (.int 2) (.idx (.var 2) (.int 1)))))) .nil))))))⟩
def sp__law_great : FSpec := fun ds Q => match ds with
  | [.int _, .int p] => (0 < p ∧ p < 2 ^ 62) ∧ ∀ v : Int, -(10 ^ 130) < v → v < 10 ^ 130 → Q (.ret (.v .fro (.int v)))
  | _ => False
theorem run__law_great : ∀ ds Q, sp__law_great ds Q → m__law_great.run ds Q := by
  intro ds Q h
  unfold sp__law_great at h
  split at h
  · rename_i c p
    obtain ⟨hp, h⟩ := h
    simp [m__law_great, run_def, sp__law_draws, List.replicate]
    refine ⟨hp, allR_of fun xs hx => ?_⟩
    rw [cut_map]
    refine for_ints (I := fun _ e => ∃ (v : Int) (s : Sl), e = [.v .fro (.int c), .v .fro (.int p), .v .fro (.lst (xs.map .int)), .v .fro (.int v), s]) ⟨_, _, rfl⟩ ?_ ?_
    · rintro i n e K hn ⟨v, s, rfl⟩ hK
      simp
      exact hK _ ⟨_, _, rfl⟩
    · rintro e ⟨v, s, rfl⟩
      rw [inR_cons_iff] at hx
      obtain ⟨x0, _, rfl, -, hx⟩ := hx
      rw [inR_cons_iff] at hx
      obtain ⟨x1, xs, rfl, h1, hx⟩ := hx
      have e9 : x1 = 0 ∨ x1 = 1 := by omega
      have a := Int.fmod_nonneg_of_pos v (b := 10 ^ 130) (by decide)
      have b := Int.fmod_lt_of_pos v (b := 10 ^ 130) (by decide)
      have z1 : Sz 4 (1 - 2 * x1) := ⟨fits_of (by omega)⟩
      have fin : Q (.ret (.v .fro (.int (v.fmod (10 ^ 130) * (1 - 2 * x1))))) := by
        refine h _ ?_ ?_
        · rcases e9 with rfl | rfl <;> omega
        · rcases e9 with rfl | rfl <;> omega
      simp [atI, ixN, show (1 : Int) < (xs.length : Int) + 1 + 1 by omega]
      exact fin
  · exact h.elim

def m__law_whole : F := ⟨1, 1, (.cons (.ret (.andE (.cons (.isi (.var 0) "int") (.cons (.notE (.isi (.var 0) "bool")) .nil)))) .nil)⟩
def sp__law_whole : FSpec := fun ds Q => match ds with
  | [.int _] => Q (.ret (.v .fro (.bl true)))
  | _ => False
theorem run__law_whole : ∀ ds Q, sp__law_whole ds Q → m__law_whole.run ds Q := by
  intro ds Q h
  unfold sp__law_whole at h
  split at h
  · simp [m__law_whole, run_def, isiW, isTy]
    exact h
  · exact h.elim

def m__law_is : F := ⟨2, 2, (.cons (.ret (.andE (.cons (.call "_law_whole" sp__law_whole (.cons (.var 0) .nil)) (.cons (.cmp .eq (.var 0) (.var 1)) .nil)))) .nil)⟩
def sp__law_is : FSpec := fun ds Q => match ds with
  | [.int i, .int j] => Q (.ret (.v .fro (.bl (decide (i = j)))))
  | _ => False
theorem run__law_is : ∀ ds Q, sp__law_is ds Q → m__law_is.run ds Q := by
  intro ds Q h
  unfold sp__law_is at h
  split at h
  · simp [m__law_is, run_def, sp__law_whole]
    exact h
  · exact h.elim

def m__law_cell : F := ⟨2, 2, (.cons (.iff (.cmp .eq (.bi .len (.cons (.var 0) .nil)) (.int 0)) (.cons (.ret (.bin .mul (.int 7919) (.bin .add (.var 1) (.int 1)))) .nil) .nil) (.cons (.iff (.cmp .lt (.var 1) (.bi .len (.cons (.var 0) .nil))) (.cons (.ret (.idx (.var 0) (.var 1))) .nil) .nil) (.cons (.ret (.bin .add (.idx (.var 0) (.bin .mod (.var 1) (.bi .len (.cons (.var 0) .nil)))) (.bin .mul (.int 104729) (.var 1)))) .nil)))⟩
def sp__law_cell : FSpec := fun ds Q => match ds with
  | [.scr ns, .int k] => (0 ≤ k ∧ k < 2 ^ 60) ∧ ns.length ≤ 63 ∧ ∀ v : Int, Q (.ret (.v .fro (.int v)))
  | _ => False
theorem run__law_cell : ∀ ds Q, sp__law_cell ds Q → m__law_cell.run ds Q := by
  intro ds Q h
  unfold sp__law_cell at h
  split at h
  · rename_i ns k
    obtain ⟨⟨h0, h1⟩, hl, h⟩ := h
    simp [m__law_cell, run_def]
    by_cases e : ns = []
    · subst e
      simp
      exact h _
    · have hp : 0 < ns.length := List.length_pos_iff.mpr e
      simp [e]
      by_cases hk : k < ns.length
      · simp [hk]
        obtain ⟨n, rfl⟩ := Int.eq_ofNat_of_zero_le h0
        have hn : n < ns.length := by omega
        simp [atI, ixN, hn]
        exact h _
      · simp [hk]
        have e1 := Int.fmod_nonneg_of_pos k (b := (ns.length : Int)) (by omega)
        have e2 := Int.fmod_lt_of_pos k (b := (ns.length : Int)) (by omega)
        obtain ⟨n, hn⟩ := Int.eq_ofNat_of_zero_le e1
        rw [hn] at e2 ⊢
        have hn2 : n < ns.length := by omega
        simp [atI, ixN, hn2]
        exact h _
  · exact h.elim

def m__law_great_right : F := ⟨1, 8, (.cons (.asg (.nm 1) (.bin .fdiv (.bi .abs (.cons (.call "_law_great" sp__law_great (.cons (.call "_law_cell" sp__law_cell (.cons (.var 0) (.cons (.int 9) .nil))) (.cons (.int 1000000007) .nil))) .nil)) (.int 1000))) (.cons (.asg (.nm 2) (.bi .max (.cons (.int 1) (.cons (.bi .abs (.cons (.call "_law_great" sp__law_great (.cons (.call "_law_cell" sp__law_cell (.cons (.var 0) (.cons (.int 10) .nil))) (.cons (.int 1000000009) .nil))) .nil)) .nil)))) (.cons (.asg (.nm 3) (.bin .mod (.call "_law_great" sp__law_great (.cons (.call "_law_cell" sp__law_cell (.cons (.var 0) (.cons (.int 11) .nil))) (.cons (.int 1000000021) .nil))) (.var 2))) (.cons (.asg (.nm 4) (.bin .mod (.call "_law_great" sp__law_great (.cons (.call "_law_cell" sp__law_cell (.cons (.var 0) (.cons (.int 12) .nil))) (.cons (.int 1000000033) .nil))) (.var 2))) (.cons (.asg (.nm 5) (.call "whole_sum" sp_whole_sum (.cons (.var 1) (.cons (.var 2) (.cons (.var 3) (.cons (.var 4) .nil)))))) (.cons (.frz 5) (.cons (.asg (.nm 6) (.bin .add (.var 5) (.bi .sum (.cons (.comp (.nm 7) (.rangeW (.var 1) (.bin .add (.var 1) (.int 20))) .none (.bin .fdiv (.bin .add (.bin .mul (.var 3) (.var 7)) (.var 4)) (.var 2))) .nil)))) (.cons (.frz 6) (.cons (.iff (.notE (.call "_law_is" sp__law_is (.cons (.call "whole_sum" sp_whole_sum (.cons (.bin .add (.var 1) (.int 20)) (.cons (.var 2) (.cons (.var 3) (.cons (.var 4) .nil))))) (.cons (.var 6) .nil)))) (.cons (.ret (.bl false)) .nil) .nil) (.cons (.iff (.orE (.cons (.cmp .ne (.call "whole_sum" sp_whole_sum (.cons (.var 1) (.cons (.var 2) (.cons (.bin .sub (.var 3) (.var 2)) (.cons (.var 4) .nil))))) (.bin .sub (.var 5) (.bin .fdiv (.bin .mul (.var 1) (.bin .sub (.var 1) (.int 1))) (.int 2)))) (.cons (.cmp .ne (.call "whole_sum" sp_whole_sum (.cons (.var 1) (.cons (.var 2) (.cons (.var 3) (.cons (.bin .sub (.var 4) (.var 2)) .nil))))) (.bin .sub (.var 5) (.var 1))) .nil))) (.cons (.ret (.bl false)) .nil) .nil) (.cons (.ret (.cmp .eq (.call "whole_sum" sp_whole_sum (.cons (.var 1) (.cons (.var 2) (.cons (.bin .sub (.int 0) (.var 3)) (.cons (.bin .sub (.bin .sub (.var 2) (.int 1)) (.var 4)) .nil))))) (.bin .sub (.int 0) (.var 5)))) .nil)))))))))))⟩
def sp__law_great_right : FSpec := fun ds Q => ∃ ns : List Int, ds = [.scr ns] ∧ ns.length ≤ 63 ∧ Q (.ret (.v .fro (.bl true)))
theorem run__law_great_right : ∀ ds Q, sp__law_great_right ds Q → m__law_great_right.run ds Q := by
  rintro ds Q ⟨ns, rfl, hl, h⟩
  have ws : ∀ (n m a b : Int) QQ, 0 ≤ n → 0 < m → (n < 10 ^ 200 ∧ m < 10 ^ 200 ∧ -(10 ^ 200) < a ∧ a < 10 ^ 200 ∧ -(10 ^ 200) < b ∧ b < 10 ^ 200) → QQ (.ret (.v .fro (.int (flo n.toNat m a b)))) → sp_whole_sum [.int n, .int m, .int a, .int b] QQ := by
    intro n m a b QQ n0 m0 hb q
    have F : ∀ x : Int, -(10 ^ 200) < x → x < 10 ^ 200 → fits 2000 x := fun x a b => fits.mono (a := 700) (fits_of (by omega)) (by decide)
    show if n < 0 ∨ m < 1 then _ else _
    rw [if_neg (by omega)]
    exact ⟨⟨F n (by omega) hb.1, F m (by omega) hb.2.1, F a hb.2.2.1 hb.2.2.2.1, F b hb.2.2.2.2.1 hb.2.2.2.2.2⟩, q⟩
  simp [-wpSs_cons, m__law_great_right, run_def]
  rw [wpSs_cons]
  simp [-wpSs_cons, sp__law_great, sp__law_cell, hl]
  intro x1 x1a x1b
  obtain ⟨n, hn, n0, n9⟩ : ∃ n : Int, n = Int.fdiv (if x1 < 0 then -x1 else x1) 1000 ∧ 0 ≤ n ∧ n < 10 ^ 130 := by
    refine ⟨_, rfl, ?_⟩
    rw [fdiv_pos (by decide)]
    split <;> omega
  rw [← hn]
  rw [wpSs_cons]
  simp [-wpSs_cons, sp__law_great, sp__law_cell, hl]
  intro x2 x2a x2b
  obtain ⟨m, hm, m0, m9⟩ : ∃ m : Int, m = (if 1 < (if x2 < 0 then -x2 else x2) then (if x2 < 0 then -x2 else x2) else 1) ∧ 0 < m ∧ m < 10 ^ 130 := by
    refine ⟨_, rfl, ?_⟩
    split <;> split <;> omega
  rw [← hm]
  rw [wpSs_cons]
  simp [-wpSs_cons, sp__law_great, sp__law_cell, hl, fmod_pos m0, show m ≠ 0 by omega]
  intro x3 x3a x3b
  obtain ⟨a, ha, a0, a9⟩ : ∃ a : Int, a = x3 % m ∧ 0 ≤ a ∧ a < m := ⟨_, rfl, Int.emod_nonneg _ (by omega), Int.emod_lt_of_pos _ m0⟩
  rw [← ha]
  rw [wpSs_cons]
  simp [-wpSs_cons, sp__law_great, sp__law_cell, hl, fmod_pos m0, show m ≠ 0 by omega]
  intro x4 x4a x4b
  obtain ⟨b, hb, b0, b9⟩ : ∃ b : Int, b = x4 % m ∧ 0 ≤ b ∧ b < m := ⟨_, rfl, Int.emod_nonneg _ (by omega), Int.emod_lt_of_pos _ m0⟩
  rw [← hb]
  clear ha hb hm hn
  have zn : Sz 440 n := ⟨fits_of (by omega)⟩
  have zm : Sz 440 m := ⟨fits_of (by omega)⟩
  have za : Sz 440 a := ⟨fits_of (by omega)⟩
  have zb : Sz 440 b := ⟨fits_of (by omega)⟩
  have fm : Dv.divOk m := fits.divOk (a := 440) zm.h (by omega) (by decide) (by decide)
  rw [wpSs_cons]
  simp [-wpSs_cons]
  refine ws _ _ _ _ _ n0 m0 (by omega) ?_
  simp [-wpSs_cons]
  rw [wpSs_cons]
  simp [-wpSs_cons]
  rw [wpSs_cons]
  simp [-wpSs_cons, notOwn]
  refine ⟨by rw [range_len]; omega, ?_⟩
  refine compL_range (m := n) (n := n + 20) (fun i => .int ((a * (n + (i : Int)) + b) / m)) (fun _ => rfl) (fun i K K2 hi hK => ?_) ?_
  · have zi : Sz 440 (n + (i : Int)) := ⟨fits_of (by omega)⟩
    simp [fdiv_pos m0, fm]
    exact ⟨by omega, hK⟩
  rw [intsOf_map]
  dsimp only
  rw [flo_list _ _ _ _ n0, show (n + 20 - n).toNat = 20 by omega, ← flo_app]
  rw [wpSs_cons]
  simp [-wpSs_cons]
  rw [wpSs_cons]
  simp [-wpSs_cons]
  refine ws _ _ _ _ _ (by omega) m0 (by omega) ?_
  have e1 : (n + 20).toNat = n.toNat + 20 := by omega
  simp [-wpSs_cons, sp__law_is, e1]
  rw [wpSs_cons]
  simp [-wpSs_cons]
  refine ws _ _ _ _ _ n0 m0 (by omega) ?_
  rw [flo_dn1 n0 m0]
  simp [-wpSs_cons]
  refine ws _ _ _ _ _ n0 m0 (by omega) ?_
  rw [flo_dn2 n0 m0]
  simp [-wpSs_cons]
  rw [wpSs_cons]
  simp [-wpSs_cons]
  refine ws _ _ _ _ _ n0 m0 (by omega) ?_
  rw [flo_neg m0]
  simp
  exact h

def m_law : F := ⟨1, 13, (.cons (.asg (.nm 1) (.call "_law_count" sp__law_count (.cons (.call "_law_cell" sp__law_cell (.cons (.var 0) (.cons (.int 0) .nil))) (.cons (.int 999999937) .nil)))) (.cons (.frz 1) (.cons (.asg (.nm 2) (.call "_law_count" sp__law_count (.cons (.call "_law_cell" sp__law_cell (.cons (.var 0) (.cons (.int 1) .nil))) (.cons (.int 999999929) .nil)))) (.cons (.frz 2) (.cons (.asg (.nm 3) (.call "_law_far" sp__law_far (.cons (.call "_law_cell" sp__law_cell (.cons (.var 0) (.cons (.int 2) .nil))) (.cons (.int 999999893) .nil)))) (.cons (.frz 3) (.cons (.asg (.nm 4) (.call "_law_far" sp__law_far (.cons (.call "_law_cell" sp__law_cell (.cons (.var 0) (.cons (.int 3) .nil))) (.cons (.int 999999883) .nil)))) (.cons (.frz 4) (.cons (.asg (.nm 5) (.bin .sub (.call "_law_count" sp__law_count (.cons (.call "_law_cell" sp__law_cell (.cons (.var 0) (.cons (.int 4) .nil))) (.cons (.int 999999797) .nil))) (.int 1))) (.cons (.asg (.nm 6) (.call "_law_far" sp__law_far (.cons (.call "_law_cell" sp__law_cell (.cons (.var 0) (.cons (.int 5) .nil))) (.cons (.int 999999761) .nil)))) (.cons (.frz 6) (.cons (.asg (.nm 7) (.call "_law_far" sp__law_far (.cons (.call "_law_cell" sp__law_cell (.cons (.var 0) (.cons (.int 6) .nil))) (.cons (.int 999999757) .nil)))) (.cons (.frz 7) (.cons (.asg (.nm 8) (.call "_law_count" sp__law_count (.cons (.call "_law_cell" sp__law_cell (.cons (.var 0) (.cons (.int 7) .nil))) (.cons (.int 999999751) .nil)))) (.cons (.frz 8) (.cons (.asg (.nm 9) (.idx (.call "_law_draws" sp__law_draws (.cons (.call "_law_cell" sp__law_cell (.cons (.var 0) (.cons (.int 8) .nil))) (.cons (.lst (.cons (.int 61) .nil)) (.cons (.int 999999739) .nil)))) (.int 0))) (.cons (.frz 9) (.cons (.asg (.nm 10) (.call "whole_sum" sp_whole_sum (.cons (.var 1) (.cons (.var 2) (.cons (.var 3) (.cons (.var 4) .nil)))))) (.cons (.frz 10) (.cons (.iff (.notE (.call "_law_whole" sp__law_whole (.cons (.var 10) .nil))) (.cons (.ret (.bl false)) .nil) .nil) (.cons (.asg (.nm 11) (.bin .add (.var 10) (.bi .sum (.cons (.comp (.nm 12) (.rangeW (.var 1) (.bin .add (.var 1) (.var 9))) .none (.bin .fdiv (.bin .add (.bin .mul (.var 3) (.var 12)) (.var 4)) (.var 2))) .nil)))) (.cons (.frz 11) (.cons (.iff (.notE (.call "_law_is" sp__law_is (.cons (.call "whole_sum" sp_whole_sum (.cons (.bin .add (.var 1) (.var 9)) (.cons (.var 2) (.cons (.var 3) (.cons (.var 4) .nil))))) (.cons (.var 11) .nil)))) (.cons (.ret (.bl false)) .nil) .nil) (.cons (.iff (.notE (.call "_law_is" sp__law_is (.cons (.call "whole_sum" sp_whole_sum (.cons (.bin .add (.var 1) (.var 5)) (.cons (.var 2) (.cons (.var 3) (.cons (.var 4) .nil))))) (.cons (.bin .add (.var 10) (.call "whole_sum" sp_whole_sum (.cons (.var 5) (.cons (.var 2) (.cons (.var 3) (.cons (.bin .add (.var 4) (.bin .mul (.var 3) (.var 1))) .nil)))))) .nil)))) (.cons (.ret (.bl false)) .nil) .nil) (.cons (.iff (.notE (.call "_law_is" sp__law_is (.cons (.call "whole_sum" sp_whole_sum (.cons (.var 1) (.cons (.var 2) (.cons (.bin .add (.var 3) (.bin .mul (.var 6) (.var 2))) (.cons (.bin .add (.var 4) (.bin .mul (.var 7) (.var 2))) .nil))))) (.cons (.bin .add (.bin .add (.var 10) (.bin .mul (.var 6) (.bin .fdiv (.bin .mul (.var 1) (.bin .sub (.var 1) (.int 1))) (.int 2)))) (.bin .mul (.var 7) (.var 1))) .nil)))) (.cons (.ret (.bl false)) .nil) .nil) (.cons (.iff (.orE (.cons (.cmp .ne (.call "whole_sum" sp_whole_sum (.cons (.var 1) (.cons (.bin .mul (.var 8) (.var 2)) (.cons (.bin .mul (.var 8) (.var 3)) (.cons (.bin .mul (.var 8) (.var 4)) .nil))))) (.var 10)) (.cons (.cmp .ne (.call "whole_sum" sp_whole_sum (.cons (.var 1) (.cons (.var 2) (.cons (.bin .sub (.int 0) (.var 3)) (.cons (.bin .add (.var 4) (.bin .mul (.var 3) (.bin .sub (.var 1) (.int 1)))) .nil))))) (.var 10)) .nil))) (.cons (.ret (.bl false)) .nil) .nil) (.cons (.iff (.notE (.call "_law_is" sp__law_is (.cons (.call "whole_sum" sp_whole_sum (.cons (.var 1) (.cons (.var 2) (.cons (.bin .sub (.int 0) (.var 3)) (.cons (.bin .sub (.bin .sub (.var 2) (.int 1)) (.var 4)) .nil))))) (.cons (.bin .sub (.int 0) (.var 10)) .nil)))) (.cons (.ret (.bl false)) .nil) .nil) (.cons (.ret (.call "_law_great_right" sp__law_great_right (.cons (.var 0) .nil))) .nil))))))))))))))))))))))))))))⟩
theorem run_law : ∀ ds Q, sp_law ds Q → m_law.run ds Q := by
  rintro ds Q ⟨ns, rfl, hl, h⟩
  have ws : ∀ (n m a b : Int) QQ, 0 ≤ n → 0 < m → (fits 1900 n ∧ fits 1900 m ∧ fits 1900 a ∧ fits 1900 b) → QQ (.ret (.v .fro (.int (flo n.toNat m a b)))) → sp_whole_sum [.int n, .int m, .int a, .int b] QQ := by
    intro n m a b QQ n0 m0 hb q
    show if n < 0 ∨ m < 1 then _ else _
    rw [if_neg (by omega)]
    exact ⟨⟨hb.1.mono (by decide), hb.2.1.mono (by decide), hb.2.2.1.mono (by decide), hb.2.2.2.mono (by decide)⟩, q⟩
  have gr : ∀ QQ, QQ (.ret (.v .fro (.bl true))) → sp__law_great_right [.scr ns] QQ := fun QQ q => ⟨ns, rfl, hl, q⟩
  simp [-wpSs_cons, m_law, run_def]
  rw [wpSs_cons]
  simp [-wpSs_cons, sp__law_count, sp__law_cell, hl]
  intro n n0 n9
  rw [wpSs_cons]
  simp [-wpSs_cons]
  rw [wpSs_cons]
  simp [-wpSs_cons, sp__law_count, sp__law_cell, hl]
  intro m m0 m9
  rw [wpSs_cons]
  simp [-wpSs_cons]
  rw [wpSs_cons]
  simp [-wpSs_cons, sp__law_far, sp__law_cell, hl]
  intro a a0 a9
  rw [wpSs_cons]
  simp [-wpSs_cons]
  rw [wpSs_cons]
  simp [-wpSs_cons, sp__law_far, sp__law_cell, hl]
  intro b b0 b9
  rw [wpSs_cons]
  simp [-wpSs_cons]
  rw [wpSs_cons]
  simp [-wpSs_cons, sp__law_count, sp__law_cell, hl]
  intro more1 k0 k9
  obtain ⟨k, hk⟩ : ∃ k, k = more1 - 1 := ⟨_, rfl⟩
  rw [← hk]
  rw [wpSs_cons]
  simp [-wpSs_cons, sp__law_far, sp__law_cell, hl]
  intro q q0 q9
  rw [wpSs_cons]
  simp [-wpSs_cons]
  rw [wpSs_cons]
  simp [-wpSs_cons, sp__law_far, sp__law_cell, hl]
  intro r r0 r9
  rw [wpSs_cons]
  simp [-wpSs_cons]
  rw [wpSs_cons]
  simp [-wpSs_cons, sp__law_count, sp__law_cell, hl]
  intro g g0 g9
  rw [wpSs_cons]
  simp [-wpSs_cons]
  rw [wpSs_cons]
  simp [-wpSs_cons, sp__law_draws, sp__law_cell, hl, allR_cons, allR_nil]
  intro s s0 s9
  have i0 : atI [D.int s] 0 = some (.int s) := rfl
  simp [-wpSs_cons, i0]
  rw [wpSs_cons]
  simp [-wpSs_cons]
  have zn : Sz 200 n := ⟨fits_of (by omega)⟩
  have zm : Sz 200 m := ⟨fits_of (by omega)⟩
  have za : Sz 200 a := ⟨fits_of (by omega)⟩
  have zb : Sz 200 b := ⟨fits_of (by omega)⟩
  have zk : Sz 200 k := ⟨fits_of (by omega)⟩
  have zq : Sz 200 q := ⟨fits_of (by omega)⟩
  have zr : Sz 200 r := ⟨fits_of (by omega)⟩
  have zg : Sz 200 g := ⟨fits_of (by omega)⟩
  have zs : Sz 200 s := ⟨fits_of (by omega)⟩
  have up : ∀ {l : Nat} {x : Int} [i : Sz l x], l ≤ 1900 → fits 1900 x := fun {l x} i hl => i.h.mono hl
  have fn := up (x := n) (by decide)
  have fm := up (x := m) (by decide)
  have fa := up (x := a) (by decide)
  have fb := up (x := b) (by decide)
  have fk := up (x := k) (by decide)
  have hmn : m ≠ 0 := by omega
  rw [wpSs_cons]
  simp [-wpSs_cons]
  refine ws _ _ _ _ _ (by omega) m0 ⟨fn, fm, fa, fb⟩ ?_
  simp [-wpSs_cons]
  rw [wpSs_cons]
  simp [-wpSs_cons]
  rw [wpSs_cons]
  simp [-wpSs_cons, sp__law_whole]
  rw [wpSs_cons]
  simp [-wpSs_cons, notOwn]
  refine ⟨by rw [range_len]; omega, ?_⟩
  refine compL_range (m := n) (n := n + s) (fun i => .int ((a * (n + (i : Int)) + b) / m)) (fun _ => rfl) (fun i K K2 hi hK => ?_) ?_
  · have zi : Sz 210 (n + (i : Int)) := ⟨fits_of (by omega)⟩
    simp [fdiv_pos m0]
    exact ⟨by omega, hK⟩
  rw [intsOf_map]
  dsimp only
  rw [flo_list _ _ _ _ (by omega), show (n + s - n).toNat = s.toNat by omega, ← flo_app]
  rw [wpSs_cons]
  simp [-wpSs_cons]
  rw [wpSs_cons]
  simp [-wpSs_cons]
  refine ws _ _ _ _ _ (by omega) m0 ⟨up (x := n + s) (by decide), fm, fa, fb⟩ ?_
  have e1 : (n + s).toNat = n.toNat + s.toNat := by omega
  simp [-wpSs_cons, sp__law_is, e1]
  have n0' : 0 ≤ n := by omega
  have k0' : 0 ≤ k := by omega
  rw [wpSs_cons]
  simp [-wpSs_cons]
  refine ws _ _ _ _ _ (by omega) m0 ⟨up (x := n + k) (by decide), fm, fa, fb⟩ ?_
  rw [flo_appN n0' k0']
  simp [-wpSs_cons]
  refine ws _ _ _ _ _ k0' m0 ⟨fk, fm, fa, up (x := b + a * n) (by decide)⟩ ?_
  simp [-wpSs_cons, sp__law_is]
  rw [wpSs_cons]
  simp [-wpSs_cons]
  refine ws _ _ _ _ _ n0' m0 ⟨fn, fm, up (x := a + q * m) (by decide), up (x := b + r * m) (by decide)⟩ ?_
  rw [flo_upN n0' m0]
  simp [-wpSs_cons, sp__law_is]
  rw [wpSs_cons]
  simp [-wpSs_cons]
  refine ws _ _ _ _ _ n0' (Int.mul_pos g0 m0) ⟨fn, up (x := g * m) (by decide), up (x := g * a) (by decide), up (x := g * b) (by decide)⟩ ?_
  rw [flo_scale g0]
  simp [-wpSs_cons]
  refine ws _ _ _ _ _ n0' m0 ⟨fn, fm, fa.neg, up (x := b + a * (n - 1)) (by decide)⟩ ?_
  rw [flo_revN n0']
  simp [-wpSs_cons]
  rw [wpSs_cons]
  simp [-wpSs_cons]
  refine ws _ _ _ _ _ n0' m0 ⟨fn, fm, fa.neg, up (x := m - 1 - b) (by decide)⟩ ?_
  rw [flo_neg m0]
  simp [-wpSs_cons, sp__law_is]
  simp
  refine gr _ ?_
  exact h

end Dv
namespace Row
open PySem PySem.Spec PyProof.Rows L2 Dv
def top (i : Nat) : Stmt := PySem.Challenge.pw_sawsign_k16_whole_sum_far.main.body.getD i (.Pass ⟨0, 0, 0, 0⟩)
abbrev s__law_mixed : Stmt := top 9
def d__law_mixed : He.DefD := ⟨("_law_mixed", none), "_law_mixed", "_law_mixed", defArgs s__law_mixed, defBody s__law_mixed, defScope s__law_mixed, [], []⟩
theorem sc__law_mixed : FnScope ["_law_cell_here", "_law_k", "_law_prime", "_law_far_here"] ["_law_cell_here", "_law_k", "_law_prime"] (defScope s__law_mixed) := ⟨rfl, rfl, rfl, by decide +kernel, rfl, by decide +kernel, by decide +kernel⟩
theorem ck__law_mixed : chkSs0 ⟨["_law_cell_here", "_law_k", "_law_prime", "_law_far_here"], false⟩ (defScope s__law_mixed) m__law_mixed.body (defBody s__law_mixed) = true := by decide +kernel
abbrev s__law_draws : Stmt := top 10
def d__law_draws : He.DefD := ⟨("_law_draws", none), "_law_draws", "_law_draws", defArgs s__law_draws, defBody s__law_draws, defScope s__law_draws, [], []⟩
theorem sc__law_draws : FnScope ["_law_cell_here", "_law_widths", "_law_prime", "_law_left", "_law_found", "_law_k"] ["_law_cell_here", "_law_widths", "_law_prime"] (defScope s__law_draws) := ⟨rfl, rfl, rfl, by decide +kernel, rfl, by decide +kernel, by decide +kernel⟩
theorem ck__law_draws : chkSs0 ⟨["_law_cell_here", "_law_widths", "_law_prime", "_law_left", "_law_found", "_law_k"], false⟩ (defScope s__law_draws) m__law_draws.body (defBody s__law_draws) = true := by decide +kernel
abbrev s__law_count : Stmt := top 11
def d__law_count : He.DefD := ⟨("_law_count", none), "_law_count", "_law_count", defArgs s__law_count, defBody s__law_count, defScope s__law_count, [], []⟩
theorem sc__law_count : FnScope ["_law_cell_here", "_law_prime", "_law_draws_here", "_law_far_here", "_law_part"] ["_law_cell_here", "_law_prime"] (defScope s__law_count) := ⟨rfl, rfl, rfl, by decide +kernel, rfl, by decide +kernel, by decide +kernel⟩
theorem ck__law_count : chkSs0 ⟨["_law_cell_here", "_law_prime", "_law_draws_here", "_law_far_here", "_law_part"], false⟩ (defScope s__law_count) m__law_count.body (defBody s__law_count) = true := by decide +kernel
abbrev s__law_far : Stmt := top 12
def d__law_far : He.DefD := ⟨("_law_far", none), "_law_far", "_law_far", defArgs s__law_far, defBody s__law_far, defScope s__law_far, [], []⟩
theorem sc__law_far : FnScope ["_law_cell_here", "_law_prime", "_law_draws_here", "_law_far_here", "_law_part"] ["_law_cell_here", "_law_prime"] (defScope s__law_far) := ⟨rfl, rfl, rfl, by decide +kernel, rfl, by decide +kernel, by decide +kernel⟩
theorem ck__law_far : chkSs0 ⟨["_law_cell_here", "_law_prime", "_law_draws_here", "_law_far_here", "_law_part"], false⟩ (defScope s__law_far) m__law_far.body (defBody s__law_far) = true := by decide +kernel
abbrev s_check_sum : Stmt := top 4
def d_check_sum : He.DefD := ⟨("check_sum", none), "check_sum", "check_sum", defArgs s_check_sum, defBody s_check_sum, defScope s_check_sum, [], []⟩
theorem sc_check_sum : FnScope ["n", "m"] ["n", "m"] (defScope s_check_sum) := ⟨rfl, rfl, rfl, by decide +kernel, rfl, by decide +kernel, by decide +kernel⟩
theorem ck_check_sum : chkSs0 ⟨["n", "m"], false⟩ (defScope s_check_sum) m_check_sum.body (defBody s_check_sum) = true := by decide +kernel
abbrev s_sum_rows : Stmt := top 5
def d_sum_rows : He.DefD := ⟨("sum_rows", none), "sum_rows", "sum_rows", defArgs s_sum_rows, defBody s_sum_rows, defScope s_sum_rows, [], []⟩
theorem sc_sum_rows : FnScope ["n", "m", "a", "b", "rows", "going", "more", "low", "high"] ["n", "m", "a", "b"] (defScope s_sum_rows) := ⟨rfl, rfl, rfl, by decide +kernel, rfl, by decide +kernel, by decide +kernel⟩
theorem ck_sum_rows : chkSs0 ⟨["n", "m", "a", "b", "rows", "going", "more", "low", "high"], false⟩ (defScope s_sum_rows) m_sum_rows.body (defBody s_sum_rows) = true := by decide +kernel
abbrev s_whole_sum : Stmt := top 6
def d_whole_sum : He.DefD := ⟨("whole_sum", none), "whole_sum", "whole_sum", defArgs s_whole_sum, defBody s_whole_sum, defScope s_whole_sum, [], []⟩
theorem sc_whole_sum : FnScope ["n", "m", "a", "b", "row"] ["n", "m", "a", "b"] (defScope s_whole_sum) := ⟨rfl, rfl, rfl, by decide +kernel, rfl, by decide +kernel, by decide +kernel⟩
theorem ck_whole_sum : chkSs0 ⟨["n", "m", "a", "b", "row"], false⟩ (defScope s_whole_sum) m_whole_sum.body (defBody s_whole_sum) = true := by decide +kernel
abbrev s__law_great : Stmt := top 15
def d__law_great : He.DefD := ⟨("_law_great", none), "_law_great", "_law_great", defArgs s__law_great, defBody s__law_great, defScope s__law_great, [], []⟩
theorem sc__law_great : FnScope ["_law_cell_here", "_law_prime", "_law_draws_here", "_law_far_here", "_law_part"] ["_law_cell_here", "_law_prime"] (defScope s__law_great) := ⟨rfl, rfl, rfl, by decide +kernel, rfl, by decide +kernel, by decide +kernel⟩
theorem ck__law_great : chkSs0 ⟨["_law_cell_here", "_law_prime", "_law_draws_here", "_law_far_here", "_law_part"], false⟩ (defScope s__law_great) m__law_great.body (defBody s__law_great) = true := by decide +kernel
abbrev s__law_whole : Stmt := top 13
def d__law_whole : He.DefD := ⟨("_law_whole", none), "_law_whole", "_law_whole", defArgs s__law_whole, defBody s__law_whole, defScope s__law_whole, [], []⟩
theorem sc__law_whole : FnScope ["_law_found"] ["_law_found"] (defScope s__law_whole) := ⟨rfl, rfl, rfl, by decide +kernel, rfl, by decide +kernel, by decide +kernel⟩
theorem ck__law_whole : chkSs0 ⟨["_law_found"], false⟩ (defScope s__law_whole) m__law_whole.body (defBody s__law_whole) = true := by decide +kernel
abbrev s__law_is : Stmt := top 14
def d__law_is : He.DefD := ⟨("_law_is", none), "_law_is", "_law_is", defArgs s__law_is, defBody s__law_is, defScope s__law_is, [], []⟩
theorem sc__law_is : FnScope ["_law_found", "_law_due"] ["_law_found", "_law_due"] (defScope s__law_is) := ⟨rfl, rfl, rfl, by decide +kernel, rfl, by decide +kernel, by decide +kernel⟩
theorem ck__law_is : chkSs0 ⟨["_law_found", "_law_due"], false⟩ (defScope s__law_is) m__law_is.body (defBody s__law_is) = true := by decide +kernel
abbrev s__law_cell : Stmt := top 8
def d__law_cell : He.DefD := ⟨("_law_cell", none), "_law_cell", "_law_cell", defArgs s__law_cell, defBody s__law_cell, defScope s__law_cell, [], []⟩
theorem sc__law_cell : FnScope ["_law_script", "_law_k"] ["_law_script", "_law_k"] (defScope s__law_cell) := ⟨rfl, rfl, rfl, by decide +kernel, rfl, by decide +kernel, by decide +kernel⟩
theorem ck__law_cell : chkSs0 ⟨["_law_script", "_law_k"], false⟩ (defScope s__law_cell) m__law_cell.body (defBody s__law_cell) = true := by decide +kernel
abbrev s__law_great_right : Stmt := top 16
def d__law_great_right : He.DefD := ⟨("_law_great_right", none), "_law_great_right", "_law_great_right", defArgs s__law_great_right, defBody s__law_great_right, defScope s__law_great_right, [], []⟩
theorem sc__law_great_right : FnScope ["_law_script", "_law_n", "_law_m", "_law_a", "_law_b", "_law_base", "_law_due", "_law_k"] ["_law_script"] (defScope s__law_great_right) := ⟨rfl, rfl, rfl, by decide +kernel, rfl, by decide +kernel, by decide +kernel⟩
theorem ck__law_great_right : chkSs0 ⟨["_law_script", "_law_n", "_law_m", "_law_a", "_law_b", "_law_base", "_law_due", "_law_k"], false⟩ (defScope s__law_great_right) m__law_great_right.body (defBody s__law_great_right) = true := by decide +kernel
abbrev s_law : Stmt := top 17
def d_law : He.DefD := ⟨("law", none), "law", "law", defArgs s_law, defBody s_law, defScope s_law, [], []⟩
theorem sc_law : FnScope ["_law_script", "_law_n", "_law_m", "_law_a", "_law_b", "_law_more", "_law_q", "_law_r", "_law_g", "_law_stretch", "_law_base", "_law_due", "_law_k"] ["_law_script"] (defScope s_law) := ⟨rfl, rfl, rfl, by decide +kernel, rfl, by decide +kernel, by decide +kernel⟩
theorem ck_law : chkSs0 ⟨["_law_script", "_law_n", "_law_m", "_law_a", "_law_b", "_law_more", "_law_q", "_law_r", "_law_g", "_law_stretch", "_law_base", "_law_due", "_law_k"], false⟩ (defScope s_law) m_law.body (defBody s_law) = true := by decide +kernel
def fn : List He.DefD := [d__law_mixed, d__law_draws, d__law_count, d__law_far, d_check_sum, d_sum_rows, d_whole_sum, d__law_great, d__law_whole, d__law_is, d__law_cell, d__law_great_right, d_law]
def fa : List He.Fa := [.glo "_law_mixed", .glo "_law_draws", .glo "_law_count", .glo "_law_far", .glo "check_sum", .glo "sum_rows", .glo "whole_sum", .glo "_law_great", .glo "_law_whole", .glo "_law_is", .glo "_law_cell", .glo "_law_great_right", .glo "law", .free "abs", .free "bool", .free "int", .free "isinstance", .free "len", .free "max", .free "range", .free "sum"]
abbrev R : PySem.W.OpenRow := PySem.W.OpenLaw.row PySem.Challenge.rw_sawsign_k16_whole_sum_far
def exl : List Str := ["NoCount"]
def exp : List Str := ["NoCount"]
def CA (K : PySem.W.Frag) : Dv.CaL := ⟨fun x => He.ga K x, exl⟩
def exi : List (Str × Str) := []
def ckB (K : PySem.W.Frag) : Bool := (Dv.errB exl exp K && exi.all fun p => Dv.iniB K p.1 p.2)
abbrev hk : PySem.W.Hook := Dv.hookC 4 fa fn ckB
def ob (s : PySem.W.SharedT) : He.AlD × Bool := Dv.obsC 4 fa fn ckB (HandSHeadRun.getT s)
theorem ob_eq (s : PySem.W.SharedT) : ob s = hk.obs s.abs := Dv.obsC_eq (HandSHeadRun.getT_eq s)
theorem run (w : World) : HandSHeadRun.RunEq R (PySem.W.view R.prog [17]) hk ob 40000 ((["SawError", "NoCount", "check_sum", "sum_rows", "whole_sum", "_law_cell", "_law_mixed", "_law_draws", "_law_count", "_law_far", "_law_whole", "_law_is", "_law_great", "_law_great_right"] : List PySem.Str)) w := by
  intro os
  kernel_rfl
theorem facts {P : Program} {w : World} {K : PySem.W.Frag} {h : Heap} {mg : Str → Option Value} {f : Addr} (X : K.In h) (G : h.Ns mainGlobals mg) (hfa : mg ("law" : Str) = some (.ref f)) (c : He.SaysD fa fn K) (ce0 : ckB K = true) :
    ∃ fd : FuncData, (∀ (s : Shared) (v : Value), BindsTo s fd ⟨[v], []⟩ [("_law_script", v)]) ∧ ∀ base : Heap, K.In base → base.Ns mainGlobals mg → FnOk P w K mg base L2.CX0 5 f fd ["_law_script"] (fun vs H Q _ => spOf K (CA K) 1 sp_law vs H Q fun _ _ _ => False) := by
  obtain ⟨fd__law_mixed, F__law_mixed⟩ := c.def_ 0 (d := d__law_mixed) rfl
  have g__law_mixed := He.glo_ok X G (c.fact 0 (f := .glo "_law_mixed") rfl)
  have b__law_mixed : Binds K fd__law_mixed ["_law_cell_here", "_law_k", "_law_prime"] [] := F__law_mixed.bindsN fun _ _ _ _ _ _ us hl => match us, hl with | [_, _, _], _ => rfl
  obtain ⟨fd__law_draws, F__law_draws⟩ := c.def_ 1 (d := d__law_draws) rfl
  have g__law_draws := He.glo_ok X G (c.fact 1 (f := .glo "_law_draws") rfl)
  have b__law_draws : Binds K fd__law_draws ["_law_cell_here", "_law_widths", "_law_prime"] [] := F__law_draws.bindsN fun _ _ _ _ _ _ us hl => match us, hl with | [_, _, _], _ => rfl
  obtain ⟨fd__law_count, F__law_count⟩ := c.def_ 2 (d := d__law_count) rfl
  have g__law_count := He.glo_ok X G (c.fact 2 (f := .glo "_law_count") rfl)
  have b__law_count : Binds K fd__law_count ["_law_cell_here", "_law_prime"] [] := F__law_count.bindsN fun _ _ _ _ _ _ us hl => match us, hl with | [_, _], _ => rfl
  obtain ⟨fd__law_far, F__law_far⟩ := c.def_ 3 (d := d__law_far) rfl
  have g__law_far := He.glo_ok X G (c.fact 3 (f := .glo "_law_far") rfl)
  have b__law_far : Binds K fd__law_far ["_law_cell_here", "_law_prime"] [] := F__law_far.bindsN fun _ _ _ _ _ _ us hl => match us, hl with | [_, _], _ => rfl
  obtain ⟨fd_check_sum, F_check_sum⟩ := c.def_ 4 (d := d_check_sum) rfl
  have g_check_sum := He.glo_ok X G (c.fact 4 (f := .glo "check_sum") rfl)
  have b_check_sum : Binds K fd_check_sum ["n", "m"] [] := F_check_sum.bindsN fun _ _ _ _ _ _ us hl => match us, hl with | [_, _], _ => rfl
  obtain ⟨fd_sum_rows, F_sum_rows⟩ := c.def_ 5 (d := d_sum_rows) rfl
  have g_sum_rows := He.glo_ok X G (c.fact 5 (f := .glo "sum_rows") rfl)
  have b_sum_rows : Binds K fd_sum_rows ["n", "m", "a", "b"] [] := F_sum_rows.bindsN fun _ _ _ _ _ _ us hl => match us, hl with | [_, _, _, _], _ => rfl
  obtain ⟨fd_whole_sum, F_whole_sum⟩ := c.def_ 6 (d := d_whole_sum) rfl
  have g_whole_sum := He.glo_ok X G (c.fact 6 (f := .glo "whole_sum") rfl)
  have b_whole_sum : Binds K fd_whole_sum ["n", "m", "a", "b"] [] := F_whole_sum.bindsN fun _ _ _ _ _ _ us hl => match us, hl with | [_, _, _, _], _ => rfl
  obtain ⟨fd__law_great, F__law_great⟩ := c.def_ 7 (d := d__law_great) rfl
  have g__law_great := He.glo_ok X G (c.fact 7 (f := .glo "_law_great") rfl)
  have b__law_great : Binds K fd__law_great ["_law_cell_here", "_law_prime"] [] := F__law_great.bindsN fun _ _ _ _ _ _ us hl => match us, hl with | [_, _], _ => rfl
  obtain ⟨fd__law_whole, F__law_whole⟩ := c.def_ 8 (d := d__law_whole) rfl
  have g__law_whole := He.glo_ok X G (c.fact 8 (f := .glo "_law_whole") rfl)
  have b__law_whole : Binds K fd__law_whole ["_law_found"] [] := F__law_whole.bindsN fun _ _ _ _ _ _ us hl => match us, hl with | [_], _ => rfl
  obtain ⟨fd__law_is, F__law_is⟩ := c.def_ 9 (d := d__law_is) rfl
  have g__law_is := He.glo_ok X G (c.fact 9 (f := .glo "_law_is") rfl)
  have b__law_is : Binds K fd__law_is ["_law_found", "_law_due"] [] := F__law_is.bindsN fun _ _ _ _ _ _ us hl => match us, hl with | [_, _], _ => rfl
  obtain ⟨fd__law_cell, F__law_cell⟩ := c.def_ 10 (d := d__law_cell) rfl
  have g__law_cell := He.glo_ok X G (c.fact 10 (f := .glo "_law_cell") rfl)
  have b__law_cell : Binds K fd__law_cell ["_law_script", "_law_k"] [] := F__law_cell.bindsN fun _ _ _ _ _ _ us hl => match us, hl with | [_, _], _ => rfl
  obtain ⟨fd__law_great_right, F__law_great_right⟩ := c.def_ 11 (d := d__law_great_right) rfl
  have g__law_great_right := He.glo_ok X G (c.fact 11 (f := .glo "_law_great_right") rfl)
  have b__law_great_right : Binds K fd__law_great_right ["_law_script"] [] := F__law_great_right.bindsN fun _ _ _ _ _ _ us hl => match us, hl with | [_], _ => rfl
  obtain ⟨fd_law, F_law⟩ := c.def_ 12 (d := d_law) rfl
  have g_law := He.glo_ok X G (c.fact 12 (f := .glo "law") rfl)
  have b_law : Binds K fd_law ["_law_script"] [] := F_law.bindsN fun _ _ _ _ _ _ us hl => match us, hl with | [_], _ => rfl
  have r_abs : mg "abs" = none := He.free_ok X G (c.fact 13 (f := .free "abs") rfl)
  have r_bool : mg "bool" = none := He.free_ok X G (c.fact 14 (f := .free "bool") rfl)
  have r_int : mg "int" = none := He.free_ok X G (c.fact 15 (f := .free "int") rfl)
  have r_isinstance : mg "isinstance" = none := He.free_ok X G (c.fact 16 (f := .free "isinstance") rfl)
  have r_len : mg "len" = none := He.free_ok X G (c.fact 17 (f := .free "len") rfl)
  have r_max : mg "max" = none := He.free_ok X G (c.fact 18 (f := .free "max") rfl)
  have r_range : mg "range" = none := He.free_ok X G (c.fact 19 (f := .free "range") rfl)
  have r_sum : mg "sum" = none := He.free_ok X G (c.fact 20 (f := .free "sum") rfl)
  have ce0 : ckB K = true := ce0
  have ce : Dv.errB exl exp K = true := (Bool.and_eq_true_iff.mp ce0).1
  have ci : ∀ p ∈ exi, Dv.iniB K p.1 p.2 = true := List.all_eq_true.mp (Bool.and_eq_true_iff.mp ce0).2
  obtain ⟨eK, eN⟩ := Dv.errB_ok X G ce
  have e := hfa.symm.trans g_law
  cases e
  have b := FunD.bindsA (ps := ["_law_script"]) F_law fun _ _ _ _ _ _ us hl => match us, hl with | [_], _ => rfl
  refine ⟨fd_law, fun s v => b s [v] rfl, fun base _ _ => ?_⟩
  have o__law_mixed : FnOk P w K mg base (L2.CX P w) 1 (He.ga K "_law_mixed") fd__law_mixed ["_law_cell_here", "_law_k", "_law_prime"] (spOf K (CA K) 3 sp__law_mixed) := by
    refine fn_ok m__law_mixed sp__law_mixed F__law_mixed sc__law_mixed rfl rfl ck__law_mixed ?_ run__law_mixed
    simp only [m__law_mixed, OkSs, OkS, OkE, OkEs, OkEo, OkIt, OkHs, Es.len, biN, and_true, true_and, List.mem_cons, List.not_mem_nil, or_false, forall_eq_or_imp, forall_eq]
    all_goals (repeat' apply And.intro) <;> first | assumption | trivial | decide
  have o__law_draws : FnOk P w K mg base (L2.CX P w) 2 (He.ga K "_law_draws") fd__law_draws ["_law_cell_here", "_law_widths", "_law_prime"] (spOf K (CA K) 3 sp__law_draws) := by
    have k__law_mixed : (knsT P w K mg base (CA K) 1).fn "_law_mixed" 3 sp__law_mixed := known (ps := ["_law_cell_here", "_law_k", "_law_prime"]) (j := 1) (by decide) g__law_mixed F__law_mixed.kp b__law_mixed o__law_mixed
    have q_len : (knsT P w K mg base (CA K) 1).fr "len" := r_len
    have q_range : (knsT P w K mg base (CA K) 1).fr "range" := r_range
    refine fn_ok m__law_draws sp__law_draws F__law_draws sc__law_draws rfl rfl ck__law_draws ?_ run__law_draws
    simp only [m__law_draws, OkSs, OkS, OkE, OkEs, OkEo, OkIt, OkHs, Es.len, biN, and_true, true_and, List.mem_cons, List.not_mem_nil, or_false, forall_eq_or_imp, forall_eq]
    all_goals (repeat' apply And.intro) <;> first | assumption | trivial | decide
  have o__law_count : FnOk P w K mg base (L2.CX P w) 3 (He.ga K "_law_count") fd__law_count ["_law_cell_here", "_law_prime"] (spOf K (CA K) 2 sp__law_count) := by
    have k__law_draws : (knsT P w K mg base (CA K) 2).fn "_law_draws" 3 sp__law_draws := known (ps := ["_law_cell_here", "_law_widths", "_law_prime"]) (j := 2) (by decide) g__law_draws F__law_draws.kp b__law_draws o__law_draws
    refine fn_ok m__law_count sp__law_count F__law_count sc__law_count rfl rfl ck__law_count ?_ run__law_count
    simp only [m__law_count, OkSs, OkS, OkE, OkEs, OkEo, OkIt, OkHs, Es.len, biN, and_true, true_and, List.mem_cons, List.not_mem_nil, or_false, forall_eq_or_imp, forall_eq]
    all_goals (repeat' apply And.intro) <;> first | assumption | trivial | decide
  have o__law_far : FnOk P w K mg base (L2.CX P w) 3 (He.ga K "_law_far") fd__law_far ["_law_cell_here", "_law_prime"] (spOf K (CA K) 2 sp__law_far) := by
    have k__law_draws : (knsT P w K mg base (CA K) 2).fn "_law_draws" 3 sp__law_draws := known (ps := ["_law_cell_here", "_law_widths", "_law_prime"]) (j := 2) (by decide) g__law_draws F__law_draws.kp b__law_draws o__law_draws
    refine fn_ok m__law_far sp__law_far F__law_far sc__law_far rfl rfl ck__law_far ?_ run__law_far
    simp only [m__law_far, OkSs, OkS, OkE, OkEs, OkEo, OkIt, OkHs, Es.len, biN, and_true, true_and, List.mem_cons, List.not_mem_nil, or_false, forall_eq_or_imp, forall_eq]
    all_goals (repeat' apply And.intro) <;> first | assumption | trivial | decide
  have o_check_sum : FnOk P w K mg base (L2.CX P w) 1 (He.ga K "check_sum") fd_check_sum ["n", "m"] (spOf K (CA K) 2 sp_check_sum) := by
    have z_NoCount : (knsT P w K mg base (CA K) 0).ex "NoCount" := ⟨eN "NoCount" (show ("NoCount" : Str) ∈ exp by decide), show ("NoCount" : Str) ∈ exl by decide⟩
    refine fn_ok m_check_sum sp_check_sum F_check_sum sc_check_sum rfl rfl ck_check_sum ?_ run_check_sum
    simp only [m_check_sum, OkSs, OkS, OkE, OkEs, OkEo, OkIt, OkHs, Es.len, biN, and_true, true_and, List.mem_cons, List.not_mem_nil, or_false, forall_eq_or_imp, forall_eq]
    all_goals (repeat' apply And.intro) <;> first | assumption | trivial | decide
  have o_sum_rows : FnOk P w K mg base (L2.CX P w) 2 (He.ga K "sum_rows") fd_sum_rows ["n", "m", "a", "b"] (spOf K (CA K) 4 sp_sum_rows) := by
    have k_check_sum : (knsT P w K mg base (CA K) 1).fn "check_sum" 2 sp_check_sum := known (ps := ["n", "m"]) (j := 1) (by decide) g_check_sum F_check_sum.kp b_check_sum o_check_sum
    refine fn_ok m_sum_rows sp_sum_rows F_sum_rows sc_sum_rows rfl rfl ck_sum_rows ?_ run_sum_rows
    simp only [m_sum_rows, OkSs, OkS, OkE, OkEs, OkEo, OkIt, OkHs, Es.len, biN, and_true, true_and, List.mem_cons, List.not_mem_nil, or_false, forall_eq_or_imp, forall_eq]
    all_goals (repeat' apply And.intro) <;> first | assumption | trivial | decide
  have o_whole_sum : FnOk P w K mg base (L2.CX P w) 3 (He.ga K "whole_sum") fd_whole_sum ["n", "m", "a", "b"] (spOf K (CA K) 4 sp_whole_sum) := by
    have k_sum_rows : (knsT P w K mg base (CA K) 2).fn "sum_rows" 4 sp_sum_rows := known (ps := ["n", "m", "a", "b"]) (j := 2) (by decide) g_sum_rows F_sum_rows.kp b_sum_rows o_sum_rows
    have q_sum : (knsT P w K mg base (CA K) 2).fr "sum" := r_sum
    refine fn_ok m_whole_sum sp_whole_sum F_whole_sum sc_whole_sum rfl rfl ck_whole_sum ?_ run_whole_sum
    simp only [m_whole_sum, OkSs, OkS, OkE, OkEs, OkEo, OkIt, OkHs, Es.len, biN, and_true, true_and, List.mem_cons, List.not_mem_nil, or_false, forall_eq_or_imp, forall_eq]
    all_goals (repeat' apply And.intro) <;> first | assumption | trivial | decide
  have o__law_great : FnOk P w K mg base (L2.CX P w) 3 (He.ga K "_law_great") fd__law_great ["_law_cell_here", "_law_prime"] (spOf K (CA K) 2 sp__law_great) := by
    have k__law_draws : (knsT P w K mg base (CA K) 2).fn "_law_draws" 3 sp__law_draws := known (ps := ["_law_cell_here", "_law_widths", "_law_prime"]) (j := 2) (by decide) g__law_draws F__law_draws.kp b__law_draws o__law_draws
    refine fn_ok m__law_great sp__law_great F__law_great sc__law_great rfl rfl ck__law_great ?_ run__law_great
    simp only [m__law_great, OkSs, OkS, OkE, OkEs, OkEo, OkIt, OkHs, Es.len, biN, and_true, true_and, List.mem_cons, List.not_mem_nil, or_false, forall_eq_or_imp, forall_eq]
    all_goals (repeat' apply And.intro) <;> first | assumption | trivial | decide
  have o__law_whole : FnOk P w K mg base (L2.CX P w) 1 (He.ga K "_law_whole") fd__law_whole ["_law_found"] (spOf K (CA K) 1 sp__law_whole) := by
    have q_bool : (knsT P w K mg base (CA K) 0).fr "bool" := r_bool
    have q_int : (knsT P w K mg base (CA K) 0).fr "int" := r_int
    have q_isinstance : (knsT P w K mg base (CA K) 0).fr "isinstance" := r_isinstance
    refine fn_ok m__law_whole sp__law_whole F__law_whole sc__law_whole rfl rfl ck__law_whole ?_ run__law_whole
    simp only [m__law_whole, OkSs, OkS, OkE, OkEs, OkEo, OkIt, OkHs, Es.len, biN, and_true, true_and, List.mem_cons, List.not_mem_nil, or_false, forall_eq_or_imp, forall_eq]
    all_goals (repeat' apply And.intro) <;> first | assumption | trivial | decide
  have o__law_is : FnOk P w K mg base (L2.CX P w) 2 (He.ga K "_law_is") fd__law_is ["_law_found", "_law_due"] (spOf K (CA K) 2 sp__law_is) := by
    have k__law_whole : (knsT P w K mg base (CA K) 1).fn "_law_whole" 1 sp__law_whole := known (ps := ["_law_found"]) (j := 1) (by decide) g__law_whole F__law_whole.kp b__law_whole o__law_whole
    refine fn_ok m__law_is sp__law_is F__law_is sc__law_is rfl rfl ck__law_is ?_ run__law_is
    simp only [m__law_is, OkSs, OkS, OkE, OkEs, OkEo, OkIt, OkHs, Es.len, biN, and_true, true_and, List.mem_cons, List.not_mem_nil, or_false, forall_eq_or_imp, forall_eq]
    all_goals (repeat' apply And.intro) <;> first | assumption | trivial | decide
  have o__law_cell : FnOk P w K mg base (L2.CX P w) 1 (He.ga K "_law_cell") fd__law_cell ["_law_script", "_law_k"] (spOf K (CA K) 2 sp__law_cell) := by
    have q_len : (knsT P w K mg base (CA K) 0).fr "len" := r_len
    refine fn_ok m__law_cell sp__law_cell F__law_cell sc__law_cell rfl rfl ck__law_cell ?_ run__law_cell
    simp only [m__law_cell, OkSs, OkS, OkE, OkEs, OkEo, OkIt, OkHs, Es.len, biN, and_true, true_and, List.mem_cons, List.not_mem_nil, or_false, forall_eq_or_imp, forall_eq]
    all_goals (repeat' apply And.intro) <;> first | assumption | trivial | decide
  have o__law_great_right : FnOk P w K mg base (L2.CX P w) 4 (He.ga K "_law_great_right") fd__law_great_right ["_law_script"] (spOf K (CA K) 1 sp__law_great_right) := by
    have k_whole_sum : (knsT P w K mg base (CA K) 3).fn "whole_sum" 4 sp_whole_sum := known (ps := ["n", "m", "a", "b"]) (j := 3) (by decide) g_whole_sum F_whole_sum.kp b_whole_sum o_whole_sum
    have k__law_great : (knsT P w K mg base (CA K) 3).fn "_law_great" 2 sp__law_great := known (ps := ["_law_cell_here", "_law_prime"]) (j := 3) (by decide) g__law_great F__law_great.kp b__law_great o__law_great
    have k__law_is : (knsT P w K mg base (CA K) 3).fn "_law_is" 2 sp__law_is := known (ps := ["_law_found", "_law_due"]) (j := 2) (by decide) g__law_is F__law_is.kp b__law_is o__law_is
    have k__law_cell : (knsT P w K mg base (CA K) 3).fn "_law_cell" 2 sp__law_cell := known (ps := ["_law_script", "_law_k"]) (j := 1) (by decide) g__law_cell F__law_cell.kp b__law_cell o__law_cell
    have q_abs : (knsT P w K mg base (CA K) 3).fr "abs" := r_abs
    have q_max : (knsT P w K mg base (CA K) 3).fr "max" := r_max
    have q_range : (knsT P w K mg base (CA K) 3).fr "range" := r_range
    have q_sum : (knsT P w K mg base (CA K) 3).fr "sum" := r_sum
    refine fn_ok m__law_great_right sp__law_great_right F__law_great_right sc__law_great_right rfl rfl ck__law_great_right ?_ run__law_great_right
    simp only [m__law_great_right, OkSs, OkS, OkE, OkEs, OkEo, OkIt, OkHs, Es.len, biN, and_true, true_and, List.mem_cons, List.not_mem_nil, or_false, forall_eq_or_imp, forall_eq]
    all_goals (repeat' apply And.intro) <;> first | assumption | trivial | decide
  have o_law : FnOk P w K mg base (L2.CX P w) 5 (He.ga K "law") fd_law ["_law_script"] (spOf K (CA K) 1 sp_law) := by
    have k__law_count : (knsT P w K mg base (CA K) 4).fn "_law_count" 2 sp__law_count := known (ps := ["_law_cell_here", "_law_prime"]) (j := 3) (by decide) g__law_count F__law_count.kp b__law_count o__law_count
    have k__law_far : (knsT P w K mg base (CA K) 4).fn "_law_far" 2 sp__law_far := known (ps := ["_law_cell_here", "_law_prime"]) (j := 3) (by decide) g__law_far F__law_far.kp b__law_far o__law_far
    have k_whole_sum : (knsT P w K mg base (CA K) 4).fn "whole_sum" 4 sp_whole_sum := known (ps := ["n", "m", "a", "b"]) (j := 3) (by decide) g_whole_sum F_whole_sum.kp b_whole_sum o_whole_sum
    have k__law_great_right : (knsT P w K mg base (CA K) 4).fn "_law_great_right" 1 sp__law_great_right := known (ps := ["_law_script"]) (j := 4) (by decide) g__law_great_right F__law_great_right.kp b__law_great_right o__law_great_right
    have k__law_cell : (knsT P w K mg base (CA K) 4).fn "_law_cell" 2 sp__law_cell := known (ps := ["_law_script", "_law_k"]) (j := 1) (by decide) g__law_cell F__law_cell.kp b__law_cell o__law_cell
    have k__law_draws : (knsT P w K mg base (CA K) 4).fn "_law_draws" 3 sp__law_draws := known (ps := ["_law_cell_here", "_law_widths", "_law_prime"]) (j := 2) (by decide) g__law_draws F__law_draws.kp b__law_draws o__law_draws
    have k__law_whole : (knsT P w K mg base (CA K) 4).fn "_law_whole" 1 sp__law_whole := known (ps := ["_law_found"]) (j := 1) (by decide) g__law_whole F__law_whole.kp b__law_whole o__law_whole
    have k__law_is : (knsT P w K mg base (CA K) 4).fn "_law_is" 2 sp__law_is := known (ps := ["_law_found", "_law_due"]) (j := 2) (by decide) g__law_is F__law_is.kp b__law_is o__law_is
    have q_range : (knsT P w K mg base (CA K) 4).fr "range" := r_range
    have q_sum : (knsT P w K mg base (CA K) 4).fr "sum" := r_sum
    refine fn_ok m_law sp_law F_law sc_law rfl rfl ck_law ?_ run_law
    simp only [m_law, OkSs, OkS, OkE, OkEs, OkEo, OkIt, OkHs, Es.len, biN, and_true, true_and, List.mem_cons, List.not_mem_nil, or_false, forall_eq_or_imp, forall_eq]
    all_goals (repeat' apply And.intro) <;> first | assumption | trivial | decide
  exact Dv.cx0_of o_law
end Row
open PySem PySem.W PySem.Calls PyProof.Rows
theorem PySem.Challenge.cw_sawsign_k16_whole_sum_far_holds : PySem.Challenge.rw_sawsign_k16_whole_sum_far.Holds := by
  w_on; o_law
  refine HandSHeadRun.head_any (r := OpenLaw.row PySem.Challenge.rw_sawsign_k16_whole_sum_far) (q := view (OpenLaw.row PySem.Challenge.rw_sawsign_k16_whole_sum_far).prog [17]) (H := Row.hk) (ob := Row.ob) (M := 40000) (loose := ((["SawError", "NoCount", "check_sum", "sum_rows", "whole_sum", "_law_cell", "_law_mixed", "_law_draws", "_law_count", "_law_far", "_law_whole", "_law_is", "_law_great", "_law_great_right"] : List PySem.Str))) (d := HandSHeadRun.topDef (OpenLaw.row PySem.Challenge.rw_sawsign_k16_whole_sum_far).prog 17) (kwd := []) Row.ob_eq
    (by kernel_rfl) (fun s => by kernel_rfl) Row.run (by kernel_rfl) (by kernel_rfl) (by kernel_rfl) (by rfl) (by first | assumption | decide +kernel) (by decide +kernel) ⟨rfl, rfl, rfl, rfl, rfl, by decide +kernel⟩ ?hw ?hc
  case hw => w_witness2
  case hc =>
    refine L2.walk_ofE (l := PySem.Challenge.rw_sawsign_k16_whole_sum_far) (n := 63) (k := 5) (x := "_law_script") (CX := L2.CX0) rfl (by decide) (by kernel_rfl) ⟨rfl, by decide, by decide⟩ ?F (fun _ _ _ _ z => z)
    intro w mg fa h Y G hmg0
    obtain ⟨K, KX, c, ce⟩ := Y
    have hmg : mg ("law" : PySem.Str) = some (.ref fa) := by
      have e : (HandSHeadRun.topDef (OpenLaw.row PySem.Challenge.rw_sawsign_k16_whole_sum_far).prog 17).name = ("law" : PySem.Str) := by kernel_rfl
      rw [← e]
      exact hmg0
    obtain ⟨fd, hb, hF⟩ := Row.facts (P := (PySem.Challenge.rw_sawsign_k16_whole_sum_far).prog) (w := w) KX G hmg c ce
    exact ⟨K, fd, (fun vs H Q _ => Dv.spOf K (Row.CA K) 1 Dv.sp_law vs H Q fun _ _ _ => False), KX, hb, fun H a ns hl _ hS => Dv.law_start hS hl, hF⟩
