import PyProof.Rows.All
import Wide.All
import OpenK.AllK
import Wide.FinOn
import HandS.ForMost
import HandS.ForExc
import HandS.TupAny
import HandS.TupMul
import HandS.TupLe
import HandS.Zip
import HandS.IsInst
import HandS.Conv
import HandS.Flow
import HandS.CallSlots
import HandS.TryMany
import HandS.Lambda
import HandS.Style
import HandS.HeadHook4
import HandS.HeadWalk
import HandS.EndTab
import HandS.Wide
import HandS.Head0
import HandS.Head1
import HandS.Head2
import PySem.Challenge.RW_framepress_k05_chances_that_learn
set_option Elab.async false
set_option linter.all false
set_option maxRecDepth 100000
set_option maxHeartbeats 0
/-! DL: a data layer: plain values, a small language, its evaluator -/
namespace DL
open PySem

/-- plain values; loc: a list, a dict, an own object, by its number; fn: a def, by its number; ro: the script -/
inductive D where
  | non | bl (b : Bool) | int (i : Int) | str (s : Str) | tup (ds : List D) | loc (n : Nat) | fn (g : Nat) | ro (ds : List D)
abbrev Key := Sum Int Str
inductive Cell where
  | lst (ds : List D) | ins (c : Nat) (fs : List (Str × D)) | dik (kvs : List (Key × D))
abbrev Mem := List Cell
abbrev Env := List (Option D)
structure Exn where
  c : Nat
  d : Option D
/-- what an expression gives -/
inductive R (α : Type) where
  | ok (a : α) (M : Mem) | exc (e : Exn) (M : Mem) | bad
/-- what a statement gives -/
inductive F where
  | nx (ρ : Env) (M : Mem) | rt (d : D) (ρ : Env) (M : Mem) | bk (ρ : Env) (M : Mem) | ct (ρ : Env) (M : Mem) | ex (e : Exn) (ρ : Env) (M : Mem) | bad
def R.bind {α β : Type} (r : R α) (f : α → Mem → R β) : R β := match r with
  | .ok a M => f a M
  | .exc e M => .exc e M
  | .bad => .bad
def R.toF {α : Type} (r : R α) (ρ : Env) (f : α → Mem → F) : F := match r with
  | .ok a M => f a M
  | .exc e M => .ex e ρ M
  | .bad => .bad
def F.seq (r : F) (f : Env → Mem → F) : F := match r with
  | .nx ρ M => f ρ M
  | r => r
def opt {α : Type} (o : Option α) (M : Mem) : R α := match o with
  | some a => .ok a M
  | none => .bad
def chk (b : Bool) (r : R α) : R α := match b with
  | true => r
  | false => .bad

inductive UOp where
  | neg | not
inductive BOp where
  | add | sub | mul | fdiv | mod | pow | shl | shr | band | bor | bxor
inductive COp where
  | eq | ne | lt | le | gt | ge | is | isnot | isin | notin
inductive Prim where
  | len | abs | min2 | max2 | int1 | tuple | list | all | any | sum | isinst (ts : List String) | minl | maxl | lrange | trange
inductive Mth where
  | append | extend
/-- what is walked: a list or tuple, a range, a zip, an enumerate -/
inductive Src where
  | seq | rng | zip | enum

mutual
inductive IE where
  | var (i : Nat) | cst (d : D)
  | tup (es : IEs) | lst (es : IEs)
  | un (o : UOp) (a : IE) | bin (o : BOp) (a b : IE)
  | cmp (o : COp) (a b : IE) | cmp2 (o p : COp) (a b c : IE)
  | and (a b : IE) | or (a b : IE) | ifx (c a b : IE)
  | idx (a b : IE) | slc (a : IE) (lo hi : IEo)
  | call (g : Nat) (es : IEs)
  | prim (p : Prim) (es : IEs)
  | mth (m : Mth) (o a : IE)
  | comp (own : List Nat) (s : Src) (es : IEs) (tg : ITg) (ifs : IEs) (elt : IE)
  | lam (n : Nat) (h : List (List Nat × D)) (ret : D) (body : IE)
inductive IEs where
  | nil | cons (e : IE) (r : IEs)
inductive IEo where
  | no | yes (e : IE)
inductive ITg where
  | name (i : Nat) | tup (ts : ITgs) | sub (o i : IE)
inductive ITgs where
  | nil | cons (t : ITg) (r : ITgs)
end
mutual
inductive IS where
  | asg (t : ITg) (e : IE)
  | expr (e : IE) | ret (e : IE) | retn | pass | brk | cont
  | ifs (c : IE) (a b : ISs)
  | forr (s : Src) (es : IEs) (t : ITg) (b : ISs)
  | whl (c : IE) (b : ISs)
  | rais (c : Nat)
  | tryr (b : ISs) (n : Nat) (h : List (List Nat × D))
inductive ISs where
  | nil | cons (s : IS) (r : ISs)
end

def IEs.len : IEs → Nat
  | .nil => 0
  | .cons _ r => r.len + 1
def ITgs.len : ITgs → Nat
  | .nil => 0
  | .cons _ r => r.len + 1
/-! ### values -/
def lstOf (M : Mem) (n : Nat) : Option (List D) := match M[n]? with
  | some (.lst ds) => some ds
  | _ => none
def items (M : Mem) : D → Option (List D)
  | .tup ds => some ds
  | .loc n => lstOf M n
  | .ro ds => some ds
  | _ => none
def mapO (f : D → Option PyData) : List D → Option (List PyData)
  | [] => some []
  | d :: ds => match f d with
    | some p => match mapO f ds with
      | some ps => some (p :: ps)
      | none => none
    | none => none
def toP0 : D → Option PyData
  | .non => some .none
  | .bl b => some (.bool b)
  | .int i => some (.int i)
  | .str s => some (.str s)
  | _ => none
def toP (M : Mem) : Nat → D → Option PyData
  | 0, d => toP0 d
  | n + 1, d => match d with
    | .tup ds => (mapO (toP M n) ds).map .tuple
    | .loc l => match lstOf M l with
      | some ds => (mapO (toP M n) ds).map .list
      | none => none
    | d => toP0 d
def deq (M : Mem) (d e : D) : Option Bool := match toP M 60 d with
  | some p => match toP M 60 e with
    | some q => some (PyData.eqv p q)
    | none => none
  | none => none
def truth (M : Mem) : D → Option Bool
  | .non => some false
  | .bl b => some b
  | .int i => some (i != 0)
  | .tup ds => some (!ds.isEmpty)
  | .loc n => (lstOf M n).map fun ds => !ds.isEmpty
  | _ => none
def flat : D → Bool
  | .non => true
  | .bl _ => true
  | .int _ => true
  | .str _ => true
  | _ => false
def feq : D → D → Bool
  | .non, .non => true
  | .bl a, .bl b => a == b
  | .bl a, .int j => (if a then 1 else 0) == j
  | .int i, .bl b => i == (if b then 1 else 0)
  | .int i, .int j => i == j
  | .str x, .str y => x == y
  | _, _ => false
def isIn (M : Mem) (d e : D) : Option Bool := match items M e with
  | some ds => match flat d && ds.all flat with
    | true => some (ds.any fun y => feq y d)
    | false => none
  | none => none
/-- the last place that a size may have -/
def line : Nat := 16777216
def smallI (i : Int) : Bool := decide (-18446744073709551616 < i) && decide (i < 18446744073709551616)
def powOk (i j : Int) : Bool := decide (0 ≤ j) && (decide (j ≤ 1000000) && smallI i)
def unop (M : Mem) : UOp → D → Option D
  | .neg, .int i => some (.int (-i))
  | .not, d => (truth M d).map fun b => .bl (!b)
  | _, _ => none
def bini : BOp → Int → Int → Option D
  | .add, i, j => some (.int (i + j))
  | .sub, i, j => some (.int (i - j))
  | .mul, i, j => if smallI i || smallI j then some (.int (i * j)) else none
  | .fdiv, i, j => if decide (0 < j) && smallI j then some (.int (i / j)) else none
  | .mod, i, j => if 0 < j then some (.int (i % j)) else none
  | .pow, i, j => if powOk i j then some (.int (i ^ j.toNat)) else none
  | .shl, i, j => if powOk i j then some (.int (i * 2 ^ j.toNat)) else none
  | .shr, i, j => if 0 ≤ j then some (.int (i / 2 ^ j.toNat)) else none
  | .band, i, j => some (.int (Builtin.bitAnd i j))
  | .bor, i, j => some (.int (Builtin.bitOr i j))
  | .bxor, i, j => some (.int (Builtin.bitXor i j))
def catL (M : Mem) (a b : Nat) : R D := match lstOf M a with
  | some xs => match lstOf M b with
    | some ys => chk (decide (xs.length + ys.length ≤ line)) (.ok (.loc M.length) (M ++ [.lst (xs ++ ys)]))
    | none => .bad
  | none => .bad
def repL (M : Mem) (a : Nat) (k : Int) : R D := match lstOf M a with
  | some xs => chk (decide (xs.length * k.toNat ≤ line) && (decide (k < 1000000000) && decide (-1000000000 < k))) (.ok (.loc M.length) (M ++ [.lst (List.replicate k.toNat xs).flatten]))
  | none => .bad
def binop (M : Mem) (o : BOp) : D → D → R D
  | .int i, .int j => opt (bini o i j) M
  | .tup xs, .tup ys => match o with
    | .add => chk (decide (xs.length + ys.length ≤ line)) (.ok (.tup (xs ++ ys)) M)
    | _ => .bad
  | .tup xs, .int k => match o with
    | .mul => chk (decide (xs.length * k.toNat ≤ line) && (decide (2 ≤ k) && !xs.isEmpty)) (.ok (.tup (List.replicate k.toNat xs).flatten) M)
    | _ => .bad
  | .loc a, .loc b => match o with
    | .add => catL M a b
    | _ => .bad
  | .loc a, .int k => match o with
    | .mul => repL M a k
    | _ => .bad
  | .str a, .str b => match o with
    | .add => chk (decide (a.length + b.length ≤ line)) (.ok (.str (a ++ b)) M)
    | _ => .bad
  | .int _, .tup _ => .bad
  | _, _ => .bad
def cmpi : COp → Int → Int → Option Bool
  | .lt, i, j => some (decide (i < j))
  | .le, i, j => some (decide (i ≤ j))
  | .gt, i, j => some (decide (j < i))
  | .ge, i, j => some (decide (j ≤ i))
  | _, _, _ => none
def isNon : D → Bool
  | .non => true
  | _ => false
def sameB : D → D → Option Bool
  | d, .non => some (isNon d)
  | .bl a, .bl b => some (a == b)
  | _, _ => none
def cmpop (M : Mem) : COp → D → D → Option Bool
  | .eq, d, e => deq M d e
  | .ne, d, e => (deq M d e).map (!·)
  | .is, d, e => sameB d e
  | .isnot, d, e => (sameB d e).map (!·)
  | .isin, d, e => isIn M d e
  | .notin, d, e => (isIn M d e).map (!·)
  | o, .int i, .int j => cmpi o i j
  | _, _, _ => none
def ixN (n : Nat) (i : Int) : Option Nat := if 0 ≤ i then (if i < n then some i.toNat else none) else if -(n : Int) ≤ i then some (i + n).toNat else none
def atI (xs : List D) (i : Int) : Option D := match ixN xs.length i with
  | some j => xs[j]?
  | none => none
def idx (M : Mem) (d e : D) : Option D := match e with
  | .int i => match items M d with
    | some ds => atI ds i
    | none => none
  | _ => none
def sIx (n d : Nat) : Option Int → Nat
  | none => d
  | some v => if v < 0 then (max (v + (n : Int)) 0).toNat else min v.toNat n
def cut (xs : List D) (lo hi : Option Int) : List D := (xs.drop (sIx xs.length 0 lo)).take (sIx xs.length xs.length hi - sIx xs.length 0 lo)
def slc (M : Mem) (lo hi : Option Int) : D → R D
  | .tup ds => .ok (.tup (cut ds lo hi)) M
  | .loc n => match lstOf M n with
    | some ds => .ok (.loc M.length) (M ++ [.lst (cut ds lo hi)])
    | none => .bad
  | _ => .bad
/-- a value's built-in type -/
def tyOf (M : Mem) : D → Option String
  | .non => some "NoneType"
  | .bl _ => some "bool"
  | .int _ => some "int"
  | .str _ => some "str"
  | .tup _ => some "tuple"
  | .loc n => match M[n]? with
    | some (.lst _) => some "list"
    | some (.dik _) => some "dict"
    | _ => none
  | .ro _ => some "list"
  | .fn _ => none
def isI (M : Mem) (ts : List String) (d : D) : Option Bool := match tyOf M d with
  | some t => some (ts.contains t || (t == "bool" && ts.contains "int"))
  | none => none
def intsOf : List D → Option (List Int)
  | [] => some []
  | .int i :: r => match intsOf r with
    | some l => some (i :: l)
    | none => none
  | _ => none
def boolsOf : List D → Option (List Bool)
  | [] => some []
  | .bl i :: r => match boolsOf r with
    | some l => some (i :: l)
    | none => none
  | _ => none
def minI : List Int → Option Int
  | [] => none
  | [i] => some i
  | i :: r => (minI r).map fun j => if j < i then j else i
def maxI : List Int → Option Int
  | [] => none
  | [i] => some i
  | i :: r => (maxI r).map fun j => if i < j then j else i
def small62 (i : Int) : Bool := decide (-4611686018427387904 ≤ i) && decide (i < 4611686018427387904)
def rngL (lo hi : Int) : List D := (List.range (hi - lo).toNat).map fun k => .int (lo + (k : Nat))
def rngOk (lo hi : Int) : Bool := small62 lo && (small62 hi && decide ((hi - lo).toNat ≤ line))
def prim (M : Mem) : Prim → List D → R D
  | .len, [d] => match items M d with
    | some ds => .ok (.int ds.length) M
    | none => .bad
  | .abs, [.int i] => .ok (.int (if i < 0 then -i else i)) M
  | .min2, [.int i, .int j] => .ok (.int (if j < i then j else i)) M
  | .max2, [.int i, .int j] => .ok (.int (if j > i then j else i)) M
  | .int1, [.int i] => .ok (.int i) M
  | .tuple, [d] => match items M d with
    | some ds => .ok (.tup ds) M
    | none => .bad
  | .list, [d] => match items M d with
    | some ds => .ok (.loc M.length) (M ++ [.lst ds])
    | none => .bad
  | .all, [.loc n] => match lstOf M n with
    | some ds => match boolsOf ds with
      | some bs => .ok (.bl (bs.all id)) M
      | none => .bad
    | none => .bad
  | .any, [.loc n] => match lstOf M n with
    | some ds => match boolsOf ds with
      | some bs => .ok (.bl (bs.any id)) M
      | none => .bad
    | none => .bad
  | .sum, [.loc n] => match lstOf M n with
    | some ds => match intsOf ds with
      | some is => .ok (.int is.sum) M
      | none => .bad
    | none => .bad
  | .isinst ts, [d] => match isI M ts d with
    | some b => .ok (.bl b) M
    | none => .bad
  | .minl, [.loc n] => match lstOf M n with
    | some ds => match intsOf ds with
      | some is => match minI is with
        | some i => .ok (.int i) M
        | none => .bad
      | none => .bad
    | none => .bad
  | .maxl, [.loc n] => match lstOf M n with
    | some ds => match intsOf ds with
      | some is => match maxI is with
        | some i => .ok (.int i) M
        | none => .bad
      | none => .bad
    | none => .bad
  | .lrange, [.int i] => chk (rngOk 0 i) (.ok (.loc M.length) (M ++ [.lst (rngL 0 i)]))
  | .lrange, [.int i, .int j] => chk (rngOk i j) (.ok (.loc M.length) (M ++ [.lst (rngL i j)]))
  | .trange, [.int i] => chk (rngOk 0 i) (.ok (.tup (rngL 0 i)) M)
  | .trange, [.int i, .int j] => chk (rngOk i j) (.ok (.tup (rngL i j)) M)
  | _, _ => .bad
def isL (M : Mem) : D → Bool
  | .loc n => (lstOf M n).isSome
  | _ => false
def mth (M : Mem) : Mth → D → D → R D
  | .append, .loc n, d => match lstOf M n with
    | some ds => chk (decide (ds.length < line)) (.ok .non (M.set n (.lst (ds ++ [d]))))
    | none => .bad
  | .extend, .loc n, .loc k => match lstOf M n with
    | some ds => match lstOf M k with
      | some es => chk (decide (ds.length + es.length ≤ line)) (.ok .non (M.set n (.lst (ds ++ es))))
      | none => .bad
    | none => .bad
  | _, _, _ => .bad
/-- what is walked -/
inductive Wk where
  | seq (d : D) | rng (lo c : Int) (n : Nat) | zip (d e : D) | enum (d : D)
def isTup : D → Bool
  | .tup _ => true
  | _ => false
def isSeq (M : Mem) (d : D) : Bool := (items M d).isSome
def rng3 (i j c : Int) : Option Wk := if decide (c ≠ 0 ∧ c.natAbs < 1073741824) && (Builtin.Range.small i j c && decide (0 ≤ Builtin.Range.rangeSize i j c)) then some (.rng i c (Builtin.Range.rangeSize i j c).toNat) else none
def src (M : Mem) : Src → List D → Option Wk
  | .seq, [d] => if isSeq M d then some (.seq d) else none
  | .rng, [.int j] => if small62 j then some (.rng 0 1 j.toNat) else none
  | .rng, [.int i, .int j] => if small62 i && small62 j then some (.rng i 1 (j - i).toNat) else none
  | .rng, [.int i, .int j, .int c] => rng3 i j c
  | .zip, [d, e] => if isSeq M d && (isSeq M e && isTup d == isTup e) then some (.zip d e) else none
  | .enum, [d] => if isSeq M d && !isTup d then some (.enum d) else none
  | _, _ => none
/-- the turn i: nothing known, the end, an item -/
inductive Tn where
  | bad | stop | yld (d : D)
def Wk.at (M : Mem) (i : Nat) : Wk → Tn
  | .seq d => match items M d with
    | some ds => match ds[i]? with
      | some x => .yld x
      | none => .stop
    | none => .bad
  | .rng lo c n => if i < n then .yld (.int (lo + (i : Nat) * c)) else .stop
  | .zip d e => match items M d with
    | some ds => match items M e with
      | some es => match ds[i]? with
        | some x => match es[i]? with
          | some y => .yld (.tup [x, y])
          | none => .stop
        | none => .stop
      | none => .bad
    | none => .bad
  | .enum d => match items M d with
    | some ds => match ds[i]? with
      | some x => .yld (.tup [.int (i : Nat), x])
      | none => .stop
    | none => .bad
def Wk.most (M : Mem) : Wk → Nat
  | .seq d => ((items M d).getD []).length
  | .rng _ _ n => n
  | .zip d e => min ((items M d).getD []).length ((items M e).getD []).length
  | .enum d => ((items M d).getD []).length

/-! ### loops -/
/-- a for: at most so many turns -/
def loop (it : Wk) (step : D → Env → Mem → F) : Nat → Nat → Env → Mem → F
  | 0, _, _, _ => .bad
  | f + 1, i, ρ, M => match it.at M i with
    | .bad => .bad
    | .stop => .nx ρ M
    | .yld d => match step d ρ M with
      | .nx ρ' M' => loop it step f (i + 1) ρ' M'
      | .ct ρ' M' => loop it step f (i + 1) ρ' M'
      | .bk ρ' M' => .nx ρ' M'
      | r => r
/-- a comprehension's: the list grows at n -/
def cloop (it : Wk) (n : Nat) (step : D → Mem → R (Option D)) : Nat → Nat → Mem → R D
  | 0, _, _ => .bad
  | f + 1, i, M => match it.at M i with
    | .bad => .bad
    | .stop => .ok (.loc n) M
    | .yld d => match step d M with
      | .ok none M' => cloop it n step f (i + 1) M'
      | .ok (some y) M' => match lstOf M' n with
        | some ds => match decide (ds.length < line) with
          | true => cloop it n step f (i + 1) (M'.set n (.lst (ds ++ [y])))
          | false => .bad
        | none => .bad
      | _ => .bad
def wloop (c : Env → Mem → R Bool) (step : Env → Mem → F) : Nat → Env → Mem → F
  | 0, _, _ => .bad
  | f + 1, ρ, M => match c ρ M with
    | .ok true M1 => match step ρ M1 with
      | .nx ρ' M' => wloop c step f ρ' M'
      | .ct ρ' M' => wloop c step f ρ' M'
      | .bk ρ' M' => .nx ρ' M'
      | r => r
    | .ok false M1 => .nx ρ M1
    | .exc e M1 => .ex e ρ M1
    | .bad => .bad
def wipe (ρ : Env) : List Nat → Env
  | [] => ρ
  | i :: r => (wipe ρ r).set i none
/-- turns of a while at most -/
def fuel : Nat := 4000000
def setItem (M : Mem) (o i v : D) : Option Mem := match o with
  | .loc n => match i with
    | .int k => match lstOf M n with
      | some ds => match ixN ds.length k with
        | some j => some (M.set n (.lst (ds.set j v)))
        | none => none
      | none => none
    | _ => none
  | _ => none

/-- which clause takes an error of the class c -/
def findH : List (List Nat × D) → Nat → Option D
  | [], _ => none
  | (cs, d) :: r, c => match cs.contains c with
    | true => some d
    | false => findH r c
def lamR (n : Nat) (h : List (List Nat × D)) (ret : D) : R D → R D
  | .ok _ M1 => .ok ret M1
  | .exc e M1 => match decide (e.c < n) with
    | true => opt (findH h e.c) M1
    | false => .bad
  | .bad => .bad
def tryF (n : Nat) (h : List (List Nat × D)) : F → F
  | .ex e ρ M => match decide (e.c < n) with
    | true => match findH h e.c with
      | some d => .rt d ρ M
      | none => .ex e ρ M
    | false => .bad
  | r => r
/-! ### the evaluator: call: the defs that may be called -/
section
variable (call : Nat → List D → Mem → R D)
mutual
def evE : IE → Env → Mem → R D
  | .var i, ρ, M => match ρ[i]? with
    | some (some d) => .ok d M
    | _ => .bad
  | .cst d, _, M => .ok d M
  | .tup es, ρ, M => (evEs es ρ M).bind fun ds M1 => .ok (.tup ds) M1
  | .lst es, ρ, M => (evEs es ρ M).bind fun ds M1 => .ok (.loc M1.length) (M1 ++ [.lst ds])
  | .un o a, ρ, M => (evE a ρ M).bind fun d M1 => opt (unop M1 o d) M1
  | .bin o a b, ρ, M => (evE a ρ M).bind fun d M1 => (evE b ρ M1).bind fun e M2 => binop M2 o d e
  | .cmp o a b, ρ, M => (evE a ρ M).bind fun d M1 => (evE b ρ M1).bind fun e M2 => opt ((cmpop M2 o d e).map .bl) M2
  | .cmp2 o p a b c, ρ, M => (evE a ρ M).bind fun d M1 => (evE b ρ M1).bind fun e M2 => match cmpop M2 o d e with
    | some true => (evE c ρ M2).bind fun f M3 => opt ((cmpop M3 p e f).map .bl) M3
    | some false => .ok (.bl false) M2
    | none => .bad
  | .and a b, ρ, M => (evE a ρ M).bind fun d M1 => match truth M1 d with
    | some true => evE b ρ M1
    | some false => .ok d M1
    | none => .bad
  | .or a b, ρ, M => (evE a ρ M).bind fun d M1 => match truth M1 d with
    | some true => .ok d M1
    | some false => evE b ρ M1
    | none => .bad
  | .ifx c a b, ρ, M => (evE c ρ M).bind fun d M1 => match truth M1 d with
    | some true => evE a ρ M1
    | some false => evE b ρ M1
    | none => .bad
  | .idx a b, ρ, M => (evE a ρ M).bind fun d M1 => (evE b ρ M1).bind fun e M2 => opt (idx M2 d e) M2
  | .slc a lo hi, ρ, M => (evE a ρ M).bind fun d M1 => (evO lo ρ M1).bind fun l M2 => (evO hi ρ M2).bind fun h M3 => slc M3 l h d
  | .call g es, ρ, M => (evEs es ρ M).bind fun ds M1 => call g ds M1
  | .prim p es, ρ, M => (evEs es ρ M).bind fun ds M1 => prim M1 p ds
  | .mth m o a, ρ, M => (evE o ρ M).bind fun d M1 => chk (isL M1 d) ((evE a ρ M1).bind fun e M2 => mth M2 m d e)
  | .comp own s es tg ifs elt, ρ, M => ((evEs es ρ M).bind fun ds M1 => opt (src M1 s ds) M1).bind fun it M1 => cloop it M1.length (fun d M2 => match evG tg d (wipe ρ own) M2 with
      | .nx ρ2 M3 => (evC ifs ρ2 M3).bind fun b M4 => match b with
        | true => (evE elt ρ2 M4).bind fun y M5 => .ok (some y) M5
        | false => .ok none M4
      | _ => .bad) (it.most M1 + 1) 0 (M1 ++ [.lst []])
  | .lam n h ret body, ρ, M => lamR n h ret (evE body ρ M)
def evEs : IEs → Env → Mem → R (List D)
  | .nil, _, M => .ok [] M
  | .cons e r, ρ, M => (evE e ρ M).bind fun d M1 => (evEs r ρ M1).bind fun ds M2 => .ok (d :: ds) M2
def evO : IEo → Env → Mem → R (Option Int)
  | .no, _, M => .ok none M
  | .yes e, ρ, M => (evE e ρ M).bind fun d M1 => match d with
    | .int i => .ok (some i) M1
    | _ => .bad
/-- the tests of a comprehension -/
def evC : IEs → Env → Mem → R Bool
  | .nil, _, M => .ok true M
  | .cons e r, ρ, M => (evE e ρ M).bind fun d M1 => match truth M1 d with
    | some true => evC r ρ M1
    | some false => .ok false M1
    | none => .bad
/-- a target gets a value -/
def evG : ITg → D → Env → Mem → F
  | .name i, d, ρ, M => .nx (ρ.set i (some d)) M
  | .tup ts, d, ρ, M => match items M d with
    | some ds => match decide (ds.length = ts.len) with
      | true => evGs ts ds ρ M
      | false => .bad
    | none => .bad
  | .sub o i, d, ρ, M => (evE o ρ M).toF ρ fun a M1 => (evE i ρ M1).toF ρ fun b M2 => match setItem M2 a b d with
    | some M3 => .nx ρ M3
    | none => .bad
def evGs : ITgs → List D → Env → Mem → F
  | .nil, [], ρ, M => .nx ρ M
  | .cons t r, d :: ds, ρ, M => (evG t d ρ M).seq fun ρ1 M1 => evGs r ds ρ1 M1
  | _, _, _, _ => .bad
end
def evT (e : IE) (ρ : Env) (M : Mem) : R Bool := (evE call e ρ M).bind fun d M1 => opt (truth M1 d) M1
mutual
def evS : IS → Env → Mem → F
  | .asg t e, ρ, M => (evE call e ρ M).toF ρ fun d M1 => evG call t d ρ M1
  | .expr e, ρ, M => (evE call e ρ M).toF ρ fun _ M1 => .nx ρ M1
  | .ret e, ρ, M => (evE call e ρ M).toF ρ fun d M1 => .rt d ρ M1
  | .retn, ρ, M => .rt .non ρ M
  | .pass, ρ, M => .nx ρ M
  | .brk, ρ, M => .bk ρ M
  | .cont, ρ, M => .ct ρ M
  | .ifs c a b, ρ, M => (evT call c ρ M).toF ρ fun t M1 => match t with
    | true => evSs a ρ M1
    | false => evSs b ρ M1
  | .forr s es t b, ρ, M => ((evEs call es ρ M).bind fun ds M1 => opt (src M1 s ds) M1).toF ρ fun it M1 => loop it (fun d ρ2 M2 => (evG call t d ρ2 M2).seq (evSs b)) (it.most M1 + 1) 0 ρ M1
  | .tryr b n h, ρ, M => tryF n h (evSs b ρ M)
  | .whl c b, ρ, M => wloop (evT call c) (evSs b) fuel ρ M
  | .rais c, ρ, M => .ex ⟨c, none⟩ ρ M
def evSs : ISs → Env → Mem → F
  | .nil, ρ, M => .nx ρ M
  | .cons s r, ρ, M => (evS s ρ M).seq (evSs r)
end
end
/-- a def: how many parameters, how many names, its body -/
structure Def where
  ps : Nat
  n : Nat
  body : ISs
def F.toR : F → R D
  | .nx _ M => .ok .non M
  | .rt d _ M => .ok d M
  | .ex e _ M => .exc e M
  | _ => .bad
/-- the def g called, at most k calls deep -/
def callD (P : List Def) : Nat → Nat → List D → Mem → R D
  | 0, _, _, _ => .bad
  | k + 1, g, ds, M => match P[g]? with
    | some f => match decide (ds.length = f.ps) with
      | true => (evSs (callD P k) f.body (ds.map some ++ List.replicate (f.n - f.ps) none) M).toR
      | false => .bad
    | none => .bad
end DL

/-! DL: what plain values stand for; the rules of values -/
namespace DL
open PySem PySem.Spec PyProof.Rows L2

/-- what the reading leans on: the written part, the defs' and the classes' addresses, the code tables -/
structure Gm where
  K : PySem.W.Frag
  fa : Nat → Addr
  ca : Nat → Addr
  T : List (Addr × Str)
  sa : Addr
  ns : List Int
mutual
inductive Rp (G : Gm) (π : List Addr) (H : Hp) : D → V → Prop
  | non : Rp G π H .non .non
  | bl (b : Bool) : Rp G π H (.bl b) (.bl b)
  | int (i : Int) : Rp G π H (.int i) (.int i)
  | str (s : Str) : PySem.PyData.strOk s = true → s.length ≤ sizeLine → Rp G π H (.str s) (.str s)
  | tup {ds : List D} {a : Addr} {vs : List V} : SqT G.K H a vs → Rps G π H ds vs → Rp G π H (.tup ds) (.ref a)
  | loc {n : Nat} {a : Addr} : π[n]? = some a → Rp G π H (.loc n) (.ref a)
  | fn (g : Nat) : Rp G π H (.fn g) (.ref (G.fa g))
  | ro : Rp G π H (.ro (G.ns.map .int)) (.ref G.sa)
inductive Rps (G : Gm) (π : List Addr) (H : Hp) : List D → List V → Prop
  | nil : Rps G π H [] []
  | cons {d : D} {v : V} {ds : List D} {vs : List V} : Rp G π H d v → Rps G π H ds vs → Rps G π H (d :: ds) (v :: vs)
end
/-- what a value's meaning leans on stays -/
structure Nx (G : Gm) (π π' : List Addr) (H H' : Hp) : Prop where
  pi : ∃ e, π' = π ++ e
  tp : ∀ a xs, SqT G.K H a xs → SqT G.K H' a xs
theorem Nx.refl {G : Gm} {π : List Addr} {H : Hp} : Nx G π π H H := ⟨⟨[], by simp⟩, fun _ _ h => h⟩
theorem Nx.trans {G : Gm} {π π1 π2 : List Addr} {H H1 H2 : Hp} (a : Nx G π π1 H H1) (b : Nx G π1 π2 H1 H2) : Nx G π π2 H H2 := by
  obtain ⟨e, rfl⟩ := a.pi
  obtain ⟨e', rfl⟩ := b.pi
  exact ⟨⟨e ++ e', by simp⟩, fun x xs h => b.tp _ _ (a.tp _ _ h)⟩
theorem Nx.at {G : Gm} {π π1 : List Addr} {H H1 : Hp} (a : Nx G π π1 H H1) {n : Nat} {b : Addr} (h : π[n]? = some b) : π1[n]? = some b := by
  obtain ⟨e, rfl⟩ := a.pi
  have := (List.getElem?_eq_some_iff.mp h).1
  rw [List.getElem?_append_left this]; exact h
section
variable {G : Gm} {π π' : List Addr} {H H' : Hp}
mutual
theorem Rp.mono (x : Nx G π π' H H') : ∀ {d : D} {v : V}, Rp G π H d v → Rp G π' H' d v
  | _, _, .non => .non
  | _, _, .bl b => .bl b
  | _, _, .int i => .int i
  | _, _, .str s h1 h2 => .str s h1 h2
  | _, _, .tup h r => .tup (x.tp _ _ h) (Rps.mono x r)
  | _, _, .loc h => .loc (x.at h)
  | _, _, .fn g => .fn g
  | _, _, .ro => .ro
theorem Rps.mono (x : Nx G π π' H H') : ∀ {ds : List D} {vs : List V}, Rps G π H ds vs → Rps G π' H' ds vs
  | _, _, .nil => .nil
  | _, _, .cons h r => .cons (Rp.mono x h) (Rps.mono x r)
end
theorem Rps.length : ∀ {ds : List D} {vs : List V}, Rps G π H ds vs → ds.length = vs.length
  | _, _, .nil => rfl
  | _, _, .cons _ r => by rw [List.length_cons, List.length_cons, Rps.length r]
theorem Rps.append : ∀ {ds es : List D} {vs ws : List V}, Rps G π H ds vs → Rps G π H es ws → Rps G π H (ds ++ es) (vs ++ ws)
  | _, _, _, _, .nil, s => s
  | _, _, _, _, .cons h r, s => .cons h (Rps.append r s)
theorem Rps.take : ∀ {ds : List D} {vs : List V} (n : Nat), Rps G π H ds vs → Rps G π H (ds.take n) (vs.take n)
  | _, _, 0, _ => .nil
  | _, _, _ + 1, .nil => .nil
  | _, _, n + 1, .cons h r => .cons h (Rps.take n r)
theorem Rps.drop : ∀ {ds : List D} {vs : List V} (n : Nat), Rps G π H ds vs → Rps G π H (ds.drop n) (vs.drop n)
  | _, _, 0, r => r
  | _, _, _ + 1, .nil => .nil
  | _, _, n + 1, .cons _ r => Rps.drop n r
theorem Rps.set {d : D} {v : V} (h : Rp G π H d v) : ∀ {ds : List D} {vs : List V} (n : Nat), Rps G π H ds vs → Rps G π H (ds.set n d) (vs.set n v)
  | _, _, _, .nil => .nil
  | _, _, 0, .cons _ r => .cons h r
  | _, _, n + 1, .cons q r => .cons q (Rps.set h n r)
theorem Rps.rep {ds : List D} {vs : List V} (h : Rps G π H ds vs) : ∀ k : Nat, Rps G π H (List.replicate k ds).flatten (List.replicate k vs).flatten
  | 0 => .nil
  | k + 1 => by
    rw [List.replicate_succ, List.replicate_succ, List.flatten_cons, List.flatten_cons]
    exact h.append (Rps.rep h k)
theorem Rps.get : ∀ {ds : List D} {vs : List V} {i : Nat} {v : V}, Rps G π H ds vs → vs[i]? = some v → ∃ d, ds[i]? = some d ∧ Rp G π H d v
  | _, _, i, v, .nil, e => by simp at e
  | _, _, 0, v, .cons h _, e => by simp at e; subst e; exact ⟨_, rfl, h⟩
  | _, _, i + 1, v, .cons _ r, e => by
    obtain ⟨d, h1, h2⟩ := Rps.get (i := i) r (by simpa using e)
    exact ⟨d, by simpa using h1, h2⟩
theorem Rps.getD : ∀ {ds : List D} {vs : List V} {i : Nat} {d : D}, Rps G π H ds vs → ds[i]? = some d → ∃ v, vs[i]? = some v ∧ Rp G π H d v
  | _, _, i, v, .nil, e => by simp at e
  | _, _, 0, v, .cons h _, e => by simp at e; subst e; exact ⟨_, rfl, h⟩
  | _, _, i + 1, v, .cons _ r, e => by
    obtain ⟨d, h1, h2⟩ := Rps.getD (i := i) r (by simpa using e)
    exact ⟨d, by simpa using h1, h2⟩
theorem Rps.noneD {ds : List D} {vs : List V} {i : Nat} (r : Rps G π H ds vs) (e : ds[i]? = none) : vs.length ≤ i := by
  have := List.getElem?_eq_none_iff.mp e
  rw [r.length] at this; exact this
end
/-- an object as it stands -/
def CellOk (G : Gm) (π : List Addr) (H : Hp) : Cell → Addr → Prop
  | .lst ds, a => ∃ vs, H a = some (.lst vs) ∧ Rps G π H ds vs
  | _, _ => False
/-- the script stands, and nobody writes it -/
def ScrK (K : PySem.W.Frag) (a : Addr) (xs : List V) : Prop := ∃ (o : Obj) (its : Array Value) (n : Nat), K.lookup a = some o ∧ o.cls = .type "list" ∧ o.dict = none ∧ o.data = .seq its n ∧ its.size ≤ sizeLine ∧ Vals xs its.toList
def Scr (G : Gm) (π : List Addr) (H : Hp) : Prop := ScrK G.K G.sa (G.ns.map V.int) ∨ (∃ o, H G.sa = some (.frz o (.lst (G.ns.map V.int)))) ∨ (H G.sa = some (.lst (G.ns.map V.int)) ∧ G.sa ∉ π)
structure MemOk (G : Gm) (π : List Addr) (M : Mem) (H : Hp) : Prop where
  nd : π.Nodup
  len : π.length = M.length
  cell : ∀ (n : Nat) (c : Cell) (a : Addr), M[n]? = some c → π[n]? = some a → CellOk G π H c a
  tabs : LamX.Tabs G.T H
  scr : Scr G π H
/-- all but lists stay -/
theorem tabs_keep {T : List (Addr × Str)} {H H' : Hp} (t : LamX.Tabs T H) (e : ∀ b o, H b = some o → (∀ xs, o ≠ .lst xs) → H' b = some o) : LamX.Tabs T H' := fun p hp => by
  obtain ⟨ps, h1, h2, h3⟩ := t p hp
  refine ⟨ps, e _ _ h1 (fun xs z => by cases z), h2, fun pos cv hc => ?_⟩
  obtain ⟨c, e1, e2⟩ := h3 pos cv hc
  exact ⟨c, e1, e _ _ e2 (fun xs z => by unfold LamX.CodeO at z; cases z)⟩
section
variable {G : Gm} {π π' : List Addr} {H H' : Hp} {M : Mem}
theorem sqT_new {K : PySem.W.Frag} {H : Hp} {p a : Addr} {o : HO} {xs : List V} (hp : H p = none) (h : SqT K H a xs) : SqT K (upd H p o) a xs := by
  rcases h with h | h
  · rcases h with h | ⟨ob, h⟩
    · exact .inl (.inl (by rw [upd_ne (ne_of_none h hp)]; exact h))
    · exact .inl (.inr ⟨ob, by rw [upd_ne (ne_of_none h hp)]; exact h⟩)
  · exact .inr h
theorem sqT_lst {K : PySem.W.Frag} {H : Hp} {p a : Addr} {o : HO} {xs ys : List V} (hp : H p = some (.lst ys)) (h : SqT K H a xs) : SqT K (upd H p o) a xs := by
  rcases h with h | h
  · rcases h with h | ⟨ob, h⟩
    · exact .inl (.inl (by rw [upd_ne (ne_of h hp (by intro z; cases z))]; exact h))
    · exact .inl (.inr ⟨ob, by rw [upd_ne (ne_of h hp (by intro z; cases z))]; exact h⟩)
  · exact .inr h
theorem nx_new {p : Addr} {o : HO} (hp : H p = none) : Nx G π π H (upd H p o) := ⟨⟨[], by simp⟩, fun _ _ h => sqT_new hp h⟩
theorem nx_lst {p : Addr} {o : HO} {ys : List V} (hp : H p = some (.lst ys)) : Nx G π π H (upd H p o) := ⟨⟨[], by simp⟩, fun _ _ h => sqT_lst hp h⟩
theorem nx_add {p : Addr} : Nx G π (π ++ [p]) H H := ⟨⟨[p], rfl⟩, fun _ _ h => h⟩
theorem CellOk.mono {c : Cell} {a : Addr} (x : Nx G π π' H H') (h : CellOk G π H c a) (hl : ∀ vs, H a = some (.lst vs) → H' a = some (.lst vs)) : CellOk G π' H' c a := by
  cases c with
  | lst ds => obtain ⟨vs, h1, h2⟩ := h; exact ⟨vs, hl _ h1, h2.mono x⟩
  | ins _ _ => exact h
  | dik _ => exact h
theorem CellOk.there {c : Cell} {a : Addr} (h : CellOk G π H c a) : H a ≠ none := by
  cases c with
  | lst ds => obtain ⟨vs, h1, _⟩ := h; rw [h1]; intro z; cases z
  | ins _ _ => exact h.elim
  | dik _ => exact h.elim
theorem Scr.new {p : Addr} {o : HO} (s : Scr G π H) (hp : H p = none) : Scr G π (upd H p o) := by
  rcases s with s | ⟨ob, s⟩ | ⟨s, h⟩
  · exact .inl s
  · exact .inr (.inl ⟨ob, by rw [upd_ne (ne_of_none s hp)]; exact s⟩)
  · exact .inr (.inr ⟨by rw [upd_ne (ne_of_none s hp)]; exact s, h⟩)
theorem MemOk.at {n : Nat} {c : Cell} (m : MemOk G π M H) (h : M[n]? = some c) : ∃ a, π[n]? = some a ∧ CellOk G π H c a := by
  have hl : n < π.length := by rw [m.len]; exact (List.getElem?_eq_some_iff.mp h).1
  exact ⟨_, List.getElem?_eq_getElem hl, m.cell n c _ h (List.getElem?_eq_getElem hl)⟩
/-- a new object that is no own list: a tuple -/
theorem MemOk.new {p : Addr} {o : HO} (m : MemOk G π M H) (hp : H p = none) : MemOk G π M (upd H p o) := by
  refine ⟨m.nd, m.len, fun n c a h1 h2 => (m.cell n c a h1 h2).mono (nx_new hp) (fun vs h => by rw [upd_ne (ne_of_none h hp)]; exact h), ?_, m.scr.new hp⟩
  exact m.tabs.ext fun b o h => by rw [upd_ne (ne_of_none h hp)]; exact h
theorem MemOk.notin {p : Addr} (m : MemOk G π M H) (hp : H p = none) : p ∉ π := fun hm => by
  obtain ⟨n, hn, e⟩ := List.mem_iff_getElem.mp hm
  have hl : n < M.length := by rw [← m.len]; exact hn
  have c := m.cell n _ p (List.getElem?_eq_getElem hl) (by rw [List.getElem?_eq_getElem hn, e])
  exact c.there hp
/-- a new list -/
theorem MemOk.alloc {p : Addr} {ds : List D} {vs : List V} (m : MemOk G π M H) (hp : H p = none) (r : Rps G π H ds vs) : MemOk G (π ++ [p]) (M ++ [.lst ds]) (upd H p (.lst vs)) := by
  have m1 := m.new (o := .lst vs) hp
  have x : Nx G π (π ++ [p]) (upd H p (.lst vs)) (upd H p (.lst vs)) := nx_add
  refine ⟨?_, by simp [m.len], fun n c a h1 h2 => ?_, m1.tabs, ?_⟩
  · exact List.nodup_append.mpr ⟨m.nd, by simp, fun a ha b hb => by
      have : b = p := by simpa using hb
      rw [this]; intro e; exact m.notin hp (e ▸ ha)⟩
  · by_cases hn : n < M.length
    · rw [List.getElem?_append_left hn] at h1
      rw [List.getElem?_append_left (by rw [m.len]; exact hn)] at h2
      exact (m1.cell n c a h1 h2).mono x (fun _ h => h)
    · have hn' : n = M.length := by
        have := (List.getElem?_eq_some_iff.mp h1).1
        simp at this; omega
      subst hn'
      rw [List.getElem?_append_right (Nat.le_refl _)] at h1
      rw [List.getElem?_append_right (by rw [m.len]; exact Nat.le_refl _)] at h2
      simp [m.len] at h1 h2
      subst h1 h2
      exact ⟨vs, upd_same, (r.mono (nx_new hp)).mono x⟩
  · rcases m.scr with s | ⟨ob, s⟩ | ⟨s, h⟩
    · exact .inl s
    · exact .inr (.inl ⟨ob, by rw [upd_ne (ne_of_none s hp)]; exact s⟩)
    · refine .inr (.inr ⟨by rw [upd_ne (ne_of_none s hp)]; exact s, fun hm => ?_⟩)
      rcases List.mem_append.mp hm with z | z
      · exact h z
      · have e : G.sa = p := by simpa using z
        exact ne_of_none s hp e
/-- a list is written -/
theorem MemOk.write {n : Nat} {a : Addr} {ds es : List D} {vs ws : List V} (m : MemOk G π M H) (hn : M[n]? = some (.lst ds)) (ha : π[n]? = some a) (hH : H a = some (.lst vs)) (r : Rps G π H es ws) :
    MemOk G π (M.set n (.lst es)) (upd H a (.lst ws)) := by
  have x : Nx G π π H (upd H a (.lst ws)) := nx_lst hH
  refine ⟨m.nd, by simp [m.len], fun k c b h1 h2 => ?_, ?_, ?_⟩
  · by_cases hk : k = n
    · subst hk
      rw [List.getElem?_set_self (List.getElem?_eq_some_iff.mp hn).1] at h1
      rw [ha] at h2
      cases h1; cases h2
      exact ⟨ws, upd_same, r.mono x⟩
    · rw [List.getElem?_set_ne (Ne.symm hk)] at h1
      have hb : b ≠ a := fun e => by
        subst e
        obtain ⟨l1, e1⟩ := List.getElem?_eq_some_iff.mp h2
        obtain ⟨l2, e2⟩ := List.getElem?_eq_some_iff.mp ha
        exact hk ((List.getElem_inj m.nd).mp (e1.trans e2.symm))
      exact (m.cell k c b h1 h2).mono x fun vs h => by rw [upd_ne hb]; exact h
  · exact tabs_keep m.tabs fun b o h hb => by
      rw [upd_ne (fun e => hb _ (by rw [e, hH] at h; exact (Option.some.inj h).symm))]; exact h
  · rcases m.scr with s | ⟨ob, s⟩ | ⟨s, h⟩
    · exact .inl s
    · exact .inr (.inl ⟨ob, by rw [upd_ne (ne_of s hH (by intro z; cases z))]; exact s⟩)
    · refine .inr (.inr ⟨?_, h⟩)
      have ne : G.sa ≠ a := fun e => h (by rw [e]; exact List.mem_of_getElem? ha)
      rw [upd_ne ne]; exact s
/-- what items are -/
theorem MemOk.lst {n : Nat} {a : Addr} {ds : List D} (m : MemOk G π M H) (h : lstOf M n = some ds) (ha : π[n]? = some a) : M[n]? = some (.lst ds) ∧ ∃ vs, H a = some (.lst vs) ∧ Rps G π H ds vs := by
  unfold lstOf at h
  cases e : M[n]? with
  | none => rw [e] at h; cases h
  | some c =>
    rw [e] at h
    cases c with
    | lst es => cases h; exact ⟨rfl, m.cell n _ a e ha⟩
    | ins _ _ => cases h
    | dik _ => cases h
theorem rps_ns : ∀ ns : List Int, Rps G π H (ns.map .int) (ns.map V.int)
  | [] => .nil
  | n :: r => .cons (.int n) (rps_ns r)
theorem MemOk.its {d : D} {v : V} {ds : List D} (m : MemOk G π M H) (r : Rp G π H d v) (h : items M d = some ds) : ∃ a vs, v = .ref a ∧ (SqL G.K H a vs ∨ SqT G.K H a vs) ∧ Rps G π H ds vs := by
  cases r with
  | tup h1 h2 => cases h; exact ⟨_, _, rfl, .inr h1, h2⟩
  | @loc n a h1 =>
    have := m.lst (n := n) (ds := ds) h h1
    obtain ⟨_, vs, q1, q2⟩ := this
    exact ⟨_, vs, rfl, .inl (.inl (.inl q1)), q2⟩
  | ro =>
    cases h
    refine ⟨_, _, rfl, .inl ?_, rps_ns _⟩
    rcases m.scr with s | ⟨ob, s⟩ | ⟨s, _⟩
    · exact .inr s
    · exact .inl (.inr ⟨ob, s⟩)
    · exact .inl (.inl s)
  | _ => cases h
/-! ### results -/
/-- an error that flies: its class, its own dict -/
def ExR (G : Gm) (e : Exn) (cv : Value) (dx : Option Addr) (H : Hp) : Prop := cv = .ref (G.ca e.c) ∧ e.d = none ∧ dx = none
/-- what r's end brings: rel: what a result stands for -/
def pst {α β : Type} (G : Gm) (rel : List Addr → Hp → α → β → Prop) (r : R α) (π : List Addr) (H : Hp) (Q : β → Hp → Prop) (E : XK) : Prop := match r with
  | .ok d M' => ∀ π' v H', Nx G π π' H H' → MemOk G π' M' H' → rel π' H' d v → Q v H'
  | .exc e M' => ∀ π' H' cv dx, Nx G π π' H H' → MemOk G π' M' H' → ExR G e cv dx H' → E cv dx H'
  | .bad => False
abbrev post (G : Gm) (r : R D) (π : List Addr) (H : Hp) (Q : VK) (E : XK) : Prop := pst G (Rp G) r π H Q E
theorem pst_base {α β : Type} {rel : List Addr → Hp → α → β → Prop} {r : R α} {π1 : List Addr} {H1 : Hp} {Q : β → Hp → Prop} {E : XK} (h : pst G rel r π H Q E) (x : Nx G π π1 H H1) : pst G rel r π1 H1 Q E := by
  cases r with
  | ok d M' => exact fun π' v H' n => h π' v H' (x.trans n)
  | exc e M' => exact fun π' H' cv dx n => h π' H' cv dx (x.trans n)
  | bad => exact h
theorem pst_bind {α β γ δ : Type} {rel : List Addr → Hp → α → β → Prop} {rel2 : List Addr → Hp → γ → δ → Prop} {r : R α} {f : α → Mem → R γ} {Q : δ → Hp → Prop} {E : XK} (h : pst G rel2 (r.bind f) π H Q E) :
    pst G rel r π H (fun v H1 => ∃ π1 M1 d, Nx G π π1 H H1 ∧ MemOk G π1 M1 H1 ∧ rel π1 H1 d v ∧ pst G rel2 (f d M1) π1 H1 Q E) E := by
  cases r with
  | ok d M' => exact fun π' v H' n m rp => ⟨π', M', d, n, m, rp, pst_base h n⟩
  | exc e M' => exact h
  | bad => exact h
theorem pst_imp {α β : Type} {rel : List Addr → Hp → α → β → Prop} {r : R α} {Q Q' : β → Hp → Prop} {E : XK} (h : pst G rel r π H Q E) (k : ∀ v H', Q v H' → Q' v H') : pst G rel r π H Q' E := by
  cases r with
  | ok d M' => exact fun π' v H' n m rp => k _ _ (h π' v H' n m rp)
  | exc e M' => exact h
  | bad => exact h
theorem post_opt {o : Option D} {Q : VK} {E : XK} (h : post G (opt o M) π H Q E) : ∃ d, o = some d ∧ post G (.ok d M) π H Q E := by
  cases o with
  | none => exact h.elim
  | some d => exact ⟨d, rfl, h⟩
theorem post_chk {b : Bool} {r : R D} {Q : VK} {E : XK} (h : post G (chk b r) π H Q E) : b = true ∧ post G r π H Q E := by
  cases b with
  | true => exact ⟨rfl, h⟩
  | false => exact h.elim
/-- a plain value is given -/
theorem post_here {d : D} {v : V} {Q : VK} {E : XK} (h : post G (.ok d M) π H Q E) (m : MemOk G π M H) (r : Rp G π H d v) : Q v H := h _ _ _ .refl m r
/-- a new tuple is given -/
theorem post_tup {ds : List D} {vs : List V} {Q : VK} {E : XK} (h : post G (.ok (.tup ds) M) π H Q E) (m : MemOk G π M H) (r : Rps G π H ds vs) {p : Addr} (hp : H p = none) : Q (.ref p) (upd H p (.tup vs)) :=
  h _ _ _ (nx_new hp) (m.new hp) (.tup (.inl (.inl upd_same)) (r.mono (nx_new hp)))
/-- a new list is given -/
theorem post_lst {ds : List D} {vs : List V} {Q : VK} {E : XK} (h : post G (.ok (.loc M.length) (M ++ [.lst ds])) π H Q E) (m : MemOk G π M H) (r : Rps G π H ds vs) {p : Addr} (hp : H p = none) : Q (.ref p) (upd H p (.lst vs)) :=
  h _ _ _ ((nx_new hp).trans nx_add) (m.alloc hp r) (.loc (by rw [List.getElem?_append_right (by rw [m.len]; exact Nat.le_refl _)]; simp [m.len]))
end
end DL

/-! DL: operators by plain values -/
namespace DL
open PySem PySem.Spec PyProof.Rows L2
def BOp.op : BOp → Operator
  | .add => .Add
  | .sub => .Sub
  | .mul => .Mult
  | .fdiv => .FloorDiv
  | .mod => .Mod
  | .pow => .Pow
  | .shl => .LShift
  | .shr => .RShift
  | .band => .BitAnd
  | .bor => .BitOr
  | .bxor => .BitXor
/-- a two-place operation by plain values -/
def r2D (G : Gm) (f : Mem → D → D → R D) : R2 := fun x y H Q => ∃ π M d e E, MemOk G π M H ∧ Rp G π H d x ∧ Rp G π H e y ∧ post G (f M d e) π H Q E
theorem line_eq : line = sizeLine := by rw [sizeLine_eq]; rfl
theorem smallI_ok {i : Int} (h : smallI i = true) : -(2 ^ 64) < i ∧ i < 2 ^ 64 := by
  unfold smallI at h
  simp only [Bool.and_eq_true, decide_eq_true_eq] at h
  omega
theorem smallI_nat {i : Int} (h : smallI i = true) : i.natAbs < 2 ^ 64 := by
  have := smallI_ok h
  omega
theorem powOk_ok {i j : Int} (h : powOk i j = true) : CPow i j := by
  unfold powOk at h
  simp only [Bool.and_eq_true, decide_eq_true_eq] at h
  exact ⟨h.1, h.2.1, smallI_nat h.2.2⟩
section
variable {X : Cx} {G : Gm}
theorem op_repG : OpR X (binaryOp .Mult) (fun x y H Q => ∃ l k xs, x = .ref l ∧ y = .int k ∧ SqT X.K H l xs ∧ xs ≠ [] ∧ 2 ≤ k ∧ xs.length * k.toNat ≤ sizeLine ∧ ∀ p, H p = none → Q (.ref p) (upd H p (.tup (List.replicate k.toNat xs).flatten))) := by
  intro pins s σ H x y v u Q I rx ry h
  obtain ⟨l, k, xs, rfl, rfl, hT, hne, h1, hz, q⟩ := h
  cases rx
  obtain ⟨t, rfl⟩ := ry
  obtain ⟨its, r, ⟨⟨cls, dd, data, sl⟩, ho, hc, n, hd⟩, hs⟩ := I.tuple hT
  simp only at hc hd
  subst hc hd
  have hle : its.length = xs.length := r.length.symm
  have hn : 0 < its.length := by
    rw [hle]
    cases xs with
    | nil => exact absurd rfl hne
    | cons a b => exact Nat.zero_lt_succ _
  have hi : its.toArray.isEmpty = false := by
    cases its with
    | nil => exact absurd hn (by simp)
    | cons a b => rfl
  have kt : ((k.toNat : Nat) : Int) = k := by omega
  have hm : ((its.toArray.size : Nat) : Int) * k ≤ sizeLine := by
    rw [List.size_toArray, hle]
    have e : ((xs.length * k.toNat : Nat) : Int) = (xs.length : Int) * k := by rw [Int.natCast_mul, kt]
    rw [← e]
    exact Int.ofNat_le.mpr hz
  have fl : (List.replicate k.toNat its).flatten.length ≤ sizeLine := by
    rw [PyProof.Rows.lm_len_rep_flat, hle, Nat.mul_comm]
    exact hz
  have kb : k ≤ sizeLine := by
    have a1 : 1 * k ≤ ((its.toArray.size : Nat) : Int) * k := Int.mul_le_mul_of_nonneg_right (by rw [List.size_toArray]; omega) (by omega)
    omega
  have es := sizeLine_eq
  have c0 : (decide (k < -(2 ^ 63)) || decide (k ≥ 2 ^ 63)) = false := by
    rw [decide_eq_false (by omega), decide_eq_false (by omega)] <;> rfl
  have c1 : (its.toArray.isEmpty || k == 1) = false := by
    rw [hi, Bool.false_or]
    exact beq_eq_false_iff_ne.mpr (by omega)
  have c2 : (decide (k ≤ 0) || its.toArray.isEmpty) = false := by
    rw [hi, Bool.or_false]
    exact decide_eq_false (by omega)
  have c4 : Builtin.Tuple.tupleTooMany (((its.toArray.size : Nat) : Int) * k) = false := by
    unfold Builtin.Tuple.tupleTooMany
    exact decide_eq_false (by omega)
  refine wpAny_binaryOp_repeat_ref (T := "tuple") (U := "int") (by decide) ⟨_, ho, rfl⟩ (fun s' => typeIs_int s' k t) noFill_tuple_mul F.fills_int_mul F.slot_int_rmul repeat_tuple F.slot_int_index.lookup
    (call_meets F.slot_int_rmul (typeIs_int s k t) F.entry_int_rmul (F.args_int_rmul_2 _ _) (int_rmul_tuple k t l its.toArray n dd sl)
      ⟨ho, rfl, ⟨_, ho, rfl⟩, call_meets F.slot_tuple_mul ⟨_, ho, rfl⟩ F.entry_tuple_mul (F.args_tuple_mul_2 _ _) (tuple_mulW l its.toArray n dd sl k t c0 c1 c2 (by omega) c4 (by rw [size_rep, List.size_toArray]; exact fl)) ⟨ho, ?_⟩⟩)
  rw [size_rep]
  refine ⟨.ref s.heap.objs.size, _, I.laid (t' := s.toks) (o := .tup (List.replicate k.toNat xs).flatten) (fun b ob q => Heap.get?_push_of_some _ q) (Nat.le_refl _) ?_, rfl, q _ (I.hok.fresh (Nat.le_refl _))⟩
  exact ⟨by rw [PyProof.Rows.lm_len_rep_flat, Nat.mul_comm]; exact hz, _, r.rep k.toNat, IsTup.new _ _⟩
theorem op_bin (hK : G.K = X.K) (o : BOp) : OpR X (binaryOp o.op) (r2D G fun M d e => binop M o d e) := by
  intro pins s σ H x y v u Q I rx ry h
  obtain ⟨π, M, d, e, E, m, rd, re, h⟩ := h
  cases rd with
  | int i =>
    cases re with
    | int j =>
      obtain ⟨w, hw, h⟩ := post_opt (show post G (opt (bini o i j) M) π H Q E from h)
      cases o with
      | add => cases hw; exact op_add pins s σ H _ _ v u Q I rx ry ⟨_, _, rfl, rfl, post_here h m (.int _)⟩
      | sub => cases hw; exact op_sub pins s σ H _ _ v u Q I rx ry ⟨_, _, rfl, rfl, post_here h m (.int _)⟩
      | mul =>
        simp only [bini] at hw
        split at hw
        · rename_i hc
          cases hw
          refine op_mul pins s σ H _ _ v u Q I rx ry ⟨_, _, rfl, rfl, ?_, post_here h m (.int _)⟩
          rcases Bool.or_eq_true_iff.mp hc with z | z
          · exact .inl (smallI_ok z)
          · exact .inr (smallI_ok z)
        · cases hw
      | fdiv =>
        simp only [bini] at hw
        split at hw
        · rename_i hc
          cases hw
          obtain ⟨h1, h2⟩ := Bool.and_eq_true_iff.mp hc
          exact op_fdivW pins s σ H _ _ v u Q I rx ry ⟨_, _, rfl, rfl, wide_div (of_decide_eq_true h1) (smallI_nat h2) (by decide) (by decide), post_here h m (.int _)⟩
        · cases hw
      | mod =>
        simp only [bini] at hw
        split at hw
        · rename_i hc
          cases hw
          exact op_mod pins s σ H _ _ v u Q I rx ry ⟨_, _, rfl, rfl, hc, post_here h m (.int _)⟩
        · cases hw
      | pow =>
        simp only [bini] at hw
        split at hw
        · rename_i hc
          cases hw
          exact op_pow pins s σ H _ _ v u Q I rx ry ⟨_, _, rfl, rfl, powOk_ok hc, post_here h m (.int _)⟩
        · cases hw
      | shl =>
        simp only [bini] at hw
        split at hw
        · rename_i hc
          cases hw
          exact op_shl pins s σ H _ _ v u Q I rx ry ⟨_, _, rfl, rfl, powOk_ok hc, post_here h m (.int _)⟩
        · cases hw
      | shr =>
        simp only [bini] at hw
        split at hw
        · rename_i hc
          cases hw
          exact op_shr pins s σ H _ _ v u Q I rx ry ⟨_, _, rfl, rfl, hc, post_here h m (.int _)⟩
        · cases hw
      | band => cases hw; exact op_and pins s σ H _ _ v u Q I rx ry ⟨_, _, rfl, rfl, post_here h m (.int _)⟩
      | bor => cases hw; exact op_or pins s σ H _ _ v u Q I rx ry ⟨_, _, rfl, rfl, post_here h m (.int _)⟩
      | bxor => cases hw; exact op_xor pins s σ H _ _ v u Q I rx ry ⟨_, _, rfl, rfl, post_here h m (.int _)⟩
    | _ => exact h.elim
  | str a ha hla =>
    cases re with
    | str b hb hlb =>
      cases o with
      | add =>
        obtain ⟨hc, h⟩ := post_chk (show post G (chk _ _) π H Q E from h)
        have hc' := of_decide_eq_true hc
        rw [line_eq] at hc'
        refine op_add_str pins s σ H _ _ v u Q I rx ry ⟨_, _, rfl, rfl, hc', post_here h m (.str _ ?_ ?_)⟩
        · unfold PyData.strOk at *
          simp only [Array.all_eq_true_iff_forall_mem, decide_eq_true_eq] at *
          intro c hcm
          rcases Array.mem_append.mp (show c ∈ a.cps ++ b.cps from hcm) with z | z
          · exact ha c z
          · exact hb c z
        · have : (a ++ b).length = a.length + b.length := by
            show (a.cps ++ b.cps).size = a.cps.size + b.cps.size
            exact Array.size_append
          omega
      | _ => exact h.elim
    | _ => exact h.elim
  | tup h1 h2 =>
    cases re with
    | tup h3 h4 =>
      cases o with
      | add =>
        obtain ⟨hc, h⟩ := post_chk (show post G (chk _ _) π H Q E from h)
        have hc' := of_decide_eq_true hc
        rw [line_eq, h2.length, h4.length] at hc'
        rw [hK] at h1 h3
        refine op_catA pins s σ H _ _ v u Q I rx ry ⟨_, _, _, _, rfl, rfl, h1, h3, hc', fun e => ?_, fun _ e => ?_, fun _ _ p hp => post_tup h m (h2.append h4) hp⟩
        · subst e
          have := h2.length
          have hd : ∀ {l : List D}, l.length = ([] : List V).length → l = [] := fun {l} e => List.eq_nil_of_length_eq_zero e
          rw [hd this] at h
          exact post_here h m (.tup (by rw [hK]; exact h3) (by simpa using h4))
        · subst e
          have := h4.length
          have hd : ∀ {l : List D}, l.length = ([] : List V).length → l = [] := fun {l} e => List.eq_nil_of_length_eq_zero e
          rw [hd this, List.append_nil] at h
          exact post_here h m (.tup (by rw [hK]; exact h1) h2)
      | _ => exact h.elim
    | int k =>
      cases o with
      | mul =>
        obtain ⟨hc, h⟩ := post_chk (show post G (chk _ _) π H Q E from h)
        simp only [Bool.and_eq_true, decide_eq_true_eq, Bool.not_eq_true'] at hc
        rw [hK] at h1
        refine op_repG pins s σ H _ _ v u Q I rx ry ⟨_, _, _, rfl, rfl, h1, fun e => ?_, hc.2.1, ?_, fun p hp => post_tup h m (h2.rep _) hp⟩
        · subst e
          have := h2.length
          have hd : ∀ {l : List D}, l.length = ([] : List V).length → l = [] := fun {l} e => List.eq_nil_of_length_eq_zero e
          rw [hd this] at hc
          simp at hc
        · rw [← h2.length, ← line_eq]; exact hc.1
      | _ => exact h.elim
    | _ => exact h.elim
  | @loc n a h1 =>
    cases re with
    | @loc n2 b h3 =>
      cases o with
      | add =>
        have h : post G (catL M n n2) π H Q E := h
        unfold catL at h
        cases e1 : lstOf M n with
        | none => rw [e1] at h; exact h.elim
        | some xs =>
          cases e2 : lstOf M n2 with
          | none => rw [e1] at h; simp only [e2] at h; exact h.elim
          | some ys =>
            rw [e1] at h
            simp only [e2] at h
            obtain ⟨hc, h⟩ := post_chk (show post G (chk _ _) π H Q E from h)
            obtain ⟨_, vs, hv, r1⟩ := m.lst e1 h1
            obtain ⟨_, ws, hw, r2⟩ := m.lst e2 h3
            have hc' := of_decide_eq_true hc
            rw [line_eq, r1.length, r2.length] at hc'
            exact op_cat pins s σ H _ _ v u Q I rx ry ⟨_, _, _, _, rfl, rfl, hv, hw, hc', fun p hp => post_lst h m (r1.append r2) hp⟩
      | _ => exact h.elim
    | int k =>
      cases o with
      | mul =>
        have h : post G (repL M n k) π H Q E := h
        unfold repL at h
        cases e1 : lstOf M n with
        | none => rw [e1] at h; exact h.elim
        | some xs =>
          rw [e1] at h
          obtain ⟨hc, h⟩ := post_chk (show post G (chk _ _) π H Q E from h)
          simp only [Bool.and_eq_true, decide_eq_true_eq] at hc
          obtain ⟨_, vs, hv, r1⟩ := m.lst e1 h1
          exact op_rep pins s σ H _ _ v u Q I rx ry ⟨_, _, _, rfl, rfl, hv, by omega, by omega, by rw [← r1.length, ← line_eq]; exact hc.1, fun p hp => post_lst h m (r1.rep _) hp⟩
      | _ => exact h.elim
    | _ => exact h.elim
  | _ => cases re <;> exact h.elim
end
end DL

/-! DL: comparisons, truth, items, slices -/
namespace DL
open PySem PySem.Spec PyProof.Rows L2
def COp.op : COp → CmpOp
  | .eq => .Eq
  | .ne => .NotEq
  | .lt => .Lt
  | .le => .LtE
  | .gt => .Gt
  | .ge => .GtE
  | .is => .Is
  | .isnot => .IsNot
  | .isin => .In
  | .notin => .NotIn
section
variable {X : Cx} {G : Gm} {π : List Addr} {M : Mem} {H : Hp}
theorem dp0_of {n : Nat} {d : D} {v : V} {p : PyData} (h : toP0 d = some p) (r : Rp G π H d v) : Dp G.K H v p ∧ p.canLay0 = true ∧ p.depth ≤ n := by
  cases r with
  | non => cases h; exact ⟨.non, rfl, by simp [PyData.depth]⟩
  | bl b => cases h; exact ⟨.bl b, rfl, by simp [PyData.depth]⟩
  | int i => cases h; exact ⟨.int i, rfl, by simp [PyData.depth]⟩
  | str s hs hl => cases h; exact ⟨.str s, by simp only [PyData.canLay0]; exact hs, by simp [PyData.depth]⟩
  | _ => cases h
theorem dps_of {n : Nat} (ih : ∀ (d : D) (v : V) (p : PyData), toP M n d = some p → Rp G π H d v → Dp G.K H v p ∧ p.canLay0 = true ∧ p.depth ≤ n) : ∀ (ds : List D) (vs : List V) (ps : List PyData), mapO (toP M n) ds = some ps → Rps G π H ds vs → DpAll G.K H vs ps ∧ PyData.canLayAll0 ps = true ∧ PyData.depthAll ps ≤ n
  | [], vs, ps, h, r => by
    cases h; cases r
    exact ⟨.nil, rfl, by simp [PyData.depthAll]⟩
  | d :: ds, vs, ps, h, r => by
    simp only [mapO] at h
    cases e : toP M n d with
    | none => rw [e] at h; cases h
    | some p =>
      rw [e] at h
      simp only at h
      cases e2 : mapO (toP M n) ds with
      | none => rw [e2] at h; cases h
      | some qs =>
        rw [e2] at h
        cases h
        cases r with
        | cons r1 r2 =>
          obtain ⟨a1, a2, a3⟩ := ih d _ p e r1
          obtain ⟨b1, b2, b3⟩ := dps_of ih ds _ qs e2 r2
          exact ⟨.cons a1 b1, by simp only [PyData.canLayAll0, a2, b2]; rfl, by simp only [PyData.depthAll]; omega⟩
theorem dp_of (m : MemOk G π M H) : ∀ (n : Nat) (d : D) (v : V) (p : PyData), toP M n d = some p → Rp G π H d v → Dp G.K H v p ∧ p.canLay0 = true ∧ p.depth ≤ n
  | 0, d, v, p, h, r => dp0_of h r
  | n + 1, d, v, p, h, r => by
    cases d with
    | tup ds =>
      obtain ⟨ps, h1, rfl⟩ := Option.map_eq_some_iff.mp (show (mapO (toP M n) ds).map PyData.tuple = some p from h)
      cases r with
      | tup hq hr =>
        obtain ⟨a1, a2, a3⟩ := dps_of (fun d v p => dp_of m n d v p) ds _ ps h1 hr
        exact ⟨.tup hq a1, by simp only [PyData.canLay0]; exact a2, by simp only [PyData.depth]; omega⟩
    | loc l =>
      cases r with
      | @loc _ a ha =>
        have h : (match lstOf M l with
          | some ds => (mapO (toP M n) ds).map PyData.list
          | none => none) = some p := h
        cases e : lstOf M l with
        | none => rw [e] at h; cases h
        | some ds =>
          rw [e] at h
          obtain ⟨ps, h1, rfl⟩ := Option.map_eq_some_iff.mp h
          obtain ⟨_, vs, q1, q2⟩ := m.lst e ha
          obtain ⟨a1, a2, a3⟩ := dps_of (fun d v p => dp_of m n d v p) ds _ ps h1 q2
          exact ⟨.lst (.inl (.inl q1)) a1, by simp only [PyData.canLay0]; exact a2, by simp only [PyData.depth]; omega⟩
    | _ => refine dp0_of ?_ r; exact h
theorem deq_ok {d e : D} {x y : V} {b : Bool} (m : MemOk G π M H) (h : deq M d e = some b) (rd : Rp G π H d x) (re : Rp G π H e y) :
    ∃ p q, Dp G.K H x p ∧ Dp G.K H y q ∧ SeqAt.shaped p = true ∧ SeqAt.shaped q = true ∧ b = PyData.eqv p q := by
  unfold deq at h
  cases e1 : toP M 60 d with
  | none => rw [e1] at h; cases h
  | some p =>
    rw [e1] at h
    simp only at h
    cases e2 : toP M 60 e with
    | none => rw [e2] at h; cases h
    | some q =>
      rw [e2] at h
      cases h
      obtain ⟨a1, a2, a3⟩ := dp_of m 60 d x p e1 rd
      obtain ⟨b1, b2, b3⟩ := dp_of m 60 e y q e2 re
      exact ⟨p, q, a1, b1, by unfold SeqAt.shaped; rw [a2, decide_eq_true (by omega)]; rfl, by unfold SeqAt.shaped; rw [b2, decide_eq_true (by omega)]; rfl, rfl⟩
theorem flat_ok {d : D} {v : V} (h : flat d = true) (r : Rp G π H d v) : flatV v = true := by
  cases r <;> first | rfl | cases h
theorem flats_ok : ∀ {ds : List D} {vs : List V}, ds.all flat = true → Rps G π H ds vs → vs.all flatV = true
  | _, _, _, .nil => rfl
  | _, _, h, .cons r rs => by
    rw [List.all_cons, Bool.and_eq_true_iff] at h ⊢
    exact ⟨flat_ok h.1 r, flats_ok h.2 rs⟩
theorem feq_ok {d e : D} {v u : V} (hd : flat d = true) (he : flat e = true) (rd : Rp G π H d v) (re : Rp G π H e u) : eqV v u = feq d e := by
  cases rd <;> cases re <;> first | rfl | cases hd | cases he
theorem fany_ok {d : D} {v : V} (hd : flat d = true) (rd : Rp G π H d v) : ∀ {ds : List D} {vs : List V}, ds.all flat = true → Rps G π H ds vs → inV v vs = ds.any fun y => feq y d
  | _, _, _, .nil => rfl
  | _, _, h, .cons r rs => by
    rw [List.all_cons, Bool.and_eq_true_iff] at h
    have ih := fany_ok hd rd h.2 rs
    unfold inV at ih ⊢
    rw [List.any_cons, List.any_cons, ih, feq_ok h.1 hd r rd]
theorem isIn_ok {d e : D} {x y : V} {b : Bool} (m : MemOk G π M H) (h : isIn M d e = some b) (rd : Rp G π H d x) (re : Rp G π H e y) :
    ∃ p xs, y = .ref p ∧ (SqL G.K H p xs ∨ SqT G.K H p xs) ∧ flatV x = true ∧ xs.all flatV = true ∧ b = inV x xs := by
  unfold isIn at h
  cases e1 : items M e with
  | none => rw [e1] at h; cases h
  | some ds =>
    rw [e1] at h
    simp only at h
    cases e2 : flat d && ds.all flat with
    | false => rw [e2] at h; cases h
    | true =>
      rw [e2] at h
      cases h
      obtain ⟨h1, h2⟩ := Bool.and_eq_true_iff.mp e2
      obtain ⟨a, vs, rfl, hq, hr⟩ := m.its re e1
      exact ⟨a, vs, rfl, hq, flat_ok h1 rd, flats_ok h2 hr, (fany_ok h1 rd h2 hr).symm⟩
def r2C (G : Gm) (o : COp) : R2 := r2D G fun M d e => opt ((cmpop M o d e).map .bl) M
theorem op_cmp (hK : G.K = X.K) (hu : X.A.units + 64 < cLine) (o : COp) : OpR X (compareOp o.op) (r2C G o) := by
  intro pins s σ H x y v u Q I rx ry h
  obtain ⟨π, M, d, e, E, m, rd, re, h⟩ := h
  obtain ⟨w, hw, h⟩ := post_opt h
  obtain ⟨b, hb, rfl⟩ := Option.map_eq_some_iff.mp hw
  have q : Q (.bl b) H := post_here h m (.bl b)
  cases o with
  | eq =>
    obtain ⟨p, z, h1, h2, h3, h4, rfl⟩ := deq_ok m hb rd re
    exact op_eqD hu pins s σ H _ _ v u Q I rx ry ⟨p, z, hK ▸ h1, hK ▸ h2, h3, h4, q⟩
  | ne =>
    obtain ⟨c, hc, rfl⟩ := Option.map_eq_some_iff.mp (show (deq M d e).map (!·) = some b from hb)
    obtain ⟨p, z, h1, h2, h3, h4, rfl⟩ := deq_ok m hc rd re
    exact op_neD hu pins s σ H _ _ v u Q I rx ry ⟨p, z, hK ▸ h1, hK ▸ h2, h3, h4, q⟩
  | is =>
    have hb : sameB d e = some b := hb
    unfold sameB at hb
    split at hb
    · cases hb
      cases re
      refine op_isN pins s σ H _ _ v u Q I rx ry ⟨rfl, ?_⟩
      cases rd <;> exact q
    · cases hb
      cases re; cases rd
      exact op_is_bl pins s σ H _ _ v u Q I rx ry ⟨_, _, rfl, rfl, by rw [← Bool.beq_eq_decide_eq]; exact q⟩
    · cases hb
  | isnot =>
    obtain ⟨c, hc, rfl⟩ := Option.map_eq_some_iff.mp (show (sameB d e).map (!·) = some b from hb)
    unfold sameB at hc
    split at hc
    · cases hc
      cases re
      refine op_notN pins s σ H _ _ v u Q I rx ry ⟨rfl, ?_⟩
      cases rd <;> exact q
    · cases hc
      cases re; cases rd
      exact op_isnot_bl pins s σ H _ _ v u Q I rx ry ⟨_, _, rfl, rfl, by rw [← Bool.beq_eq_decide_eq]; exact q⟩
    · cases hc
  | isin =>
    obtain ⟨p, xs, rfl, h1, h2, h3, rfl⟩ := isIn_ok m (show isIn M d e = some b from hb) rd re
    exact op_in_seq pins s σ H _ _ v u Q I rx ry ⟨p, xs, rfl, hK ▸ h1, h2, h3, q⟩
  | notin =>
    obtain ⟨c, hc, rfl⟩ := Option.map_eq_some_iff.mp (show (isIn M d e).map (!·) = some b from hb)
    obtain ⟨p, xs, rfl, h1, h2, h3, rfl⟩ := isIn_ok m hc rd re
    exact op_notIn_seq pins s σ H _ _ v u Q I rx ry ⟨p, xs, rfl, hK ▸ h1, h2, h3, q⟩
  | lt =>
    cases d <;> first | (cases hb; done) | (cases e <;> first | (cases hb; done) | (cases hb; cases rd; cases re; exact op_lt pins s σ H _ _ v u Q I rx ry ⟨_, _, rfl, rfl, q⟩))
  | le =>
    cases d <;> first | (cases hb; done) | (cases e <;> first | (cases hb; done) | (cases hb; cases rd; cases re; exact op_le pins s σ H _ _ v u Q I rx ry ⟨_, _, rfl, rfl, q⟩))
  | gt =>
    cases d <;> first | (cases hb; done) | (cases e <;> first | (cases hb; done) | (cases hb; cases rd; cases re; exact op_gt pins s σ H _ _ v u Q I rx ry ⟨_, _, rfl, rfl, q⟩))
  | ge =>
    cases d <;> first | (cases hb; done) | (cases e <;> first | (cases hb; done) | (cases hb; cases rd; cases re; exact op_ge pins s σ H _ _ v u Q I rx ry ⟨_, _, rfl, rfl, q⟩))
theorem empty_iff : ∀ {ds : List D} {vs : List V}, Rps G π H ds vs → (!ds.isEmpty) = !vs.isEmpty
  | _, _, .nil => rfl
  | _, _, .cons _ _ => rfl
/-- a value's truth -/
theorem truth_ok {d : D} {v : V} {b : Bool} (m : MemOk G π M H) (h : truth M d = some b) (r : Rp G π H d v) : TruV G.K v H b := by
  cases r with
  | non => cases h; rfl
  | bl b => cases h; rfl
  | int i => cases h; rfl
  | str s h1 h2 => cases h
  | tup hq hr => cases h; exact .inr (.inl ⟨_, hq, empty_iff hr⟩)
  | @loc n a ha =>
    have h : (lstOf M n).map (fun ds => !ds.isEmpty) = some b := h
    obtain ⟨ds, e, rfl⟩ := Option.map_eq_some_iff.mp h
    obtain ⟨_, vs, q1, q2⟩ := m.lst e ha
    exact .inl ⟨_, .inl (.inl q1), empty_iff q2⟩
  | fn g => cases h
  | ro => cases h
def UOp.op : UOp → UnaryOp
  | .neg => .USub
  | .not => .Not
theorem ixN_eq (n : Nat) (i : Int) : ixN n i = L2.ixN n i := rfl
theorem atI_ok {ds : List D} {vs : List V} {i : Int} {d : D} (r : Rps G π H ds vs) (h : atI ds i = some d) : ∃ v, L2.atI vs i = some v ∧ Rp G π H d v := by
  unfold atI at h
  unfold L2.atI
  rw [← r.length, ← ixN_eq]
  cases e : ixN ds.length i with
  | none => rw [e] at h; cases h
  | some j => rw [e] at h; exact r.getD h
theorem ix_D (hK : G.K = X.K) : IxR X (r2D G fun M d e => opt (idx M d e) M) := by
  intro value slice pins s σ H x y v u Q I rx ry h hs
  obtain ⟨π, M, d, e, E, m, rd, re, h0⟩ := h
  obtain ⟨w, hw, h⟩ := post_opt h0
  clear h0
  unfold idx at hw
  cases re with
  | int i =>
    simp only at hw
    cases e1 : items M d with
    | none => rw [e1] at hw; cases hw
    | some ds =>
      rw [e1] at hw
      obtain ⟨a, vs, rfl, hq, hr⟩ := m.its rd e1
      obtain ⟨z, hz, rz⟩ := atI_ok hr hw
      rcases hq with hq | hq
      · exact ix_list value slice pins s σ H _ _ v u Q I rx ry ⟨a, vs, i, z, rfl, rfl, hK ▸ hq, hz, post_here h m rz⟩ hs
      · exact ix_tup value slice pins s σ H _ _ v u Q I rx ry ⟨a, vs, i, z, rfl, rfl, hK ▸ hq, hz, post_here h m rz⟩ hs
  | _ => cases hw
theorem sIx_eq (n d : Nat) (o : Option Int) : sIx n d o = HT.sIx n d o := by
  cases o with
  | none => rfl
  | some v =>
    have h := HT.clip_eq v n d
    show (if v < 0 then (max (v + (n : Int)) 0).toNat else min v.toNat n) = _
    split at h <;> rename_i hc
    · rw [if_pos hc]; omega
    · rw [if_neg hc]; omega
theorem Rps.cut {ds : List D} {vs : List V} (r : Rps G π H ds vs) (lo hi : Option Int) : Rps G π H (cut ds lo hi) (cutV vs lo hi) := by
  unfold DL.cut cutV
  rw [sIx_eq, sIx_eq, r.length]
  exact (r.drop _).take _
theorem cut_whole {ds : List D} {lo hi : Option Int} (h : HT.sIx ds.length 0 lo = 0 ∧ HT.sIx ds.length ds.length hi = ds.length) : cut ds lo hi = ds := by
  unfold cut
  rw [sIx_eq, sIx_eq, h.1, h.2]
  simp
def rSlD (G : Gm) : V → Option Int → Option Int → Hp → VK → Prop := fun x lo hi H Q => ∃ π M d E, MemOk G π M H ∧ Rp G π H d x ∧ post G (slc M lo hi d) π H Q E
theorem sl_D (hK : G.K = X.K) : SlR X (rSlD G) := by
  intro pins s σ H x v vl vu lo hi sl Q I rx hs pl pu h
  obtain ⟨π, M, d, E, m, rd, h⟩ := h
  cases rd with
  | tup hq hr =>
    refine sl_tupA pins s σ H _ v vl vu lo hi sl Q I rx hs pl pu ⟨_, _, rfl, hK ▸ hq, fun hw => ?_, fun _ p hp => post_tup h m (hr.cut lo hi) hp⟩
    rw [← hr.length] at hw
    have h : post G (.ok (.tup (cut _ lo hi)) M) π H Q E := h
    rw [cut_whole hw] at h
    exact post_here h m (.tup hq hr)
  | @loc n a ha =>
    have h : post G (match lstOf M n with
      | some ds => .ok (.loc M.length) (M ++ [.lst (cut ds lo hi)])
      | none => .bad) π H Q E := h
    cases e : lstOf M n with
    | none => rw [e] at h; exact h.elim
    | some ds =>
      rw [e] at h
      obtain ⟨_, vs, hv, hr⟩ := m.lst e ha
      exact sl_list pins s σ H _ v vl vu lo hi sl Q I rx hs pl pu ⟨_, _, rfl, .inl (.inl hv), fun p hp => post_lst h m (hr.cut lo hi) hp⟩
  | _ => exact h.elim
end
end DL

/-! DL: calls of built-ins by plain values -/
namespace DL
open PySem PySem.Spec PyProof.Rows L2
def rPD (G : Gm) (p : Prim) : List V → Hp → VK → Prop := fun vs H Q => ∃ π M ds E, MemOk G π M H ∧ Rps G π H ds vs ∧ post G (prim M p ds) π H Q E
section
variable {X : Cx} {G : Gm} {π : List Addr} {M : Mem} {H : Hp}
theorem intsOf_ok : ∀ {ds : List D} {vs : List V} {is : List Int}, intsOf ds = some is → Rps G π H ds vs → vs = is.map V.int
  | [], _, is, h, .nil => by simp only [intsOf] at h; cases h; rfl
  | d :: ds, _, is, h, .cons r rs => by
    cases r with
    | int i =>
      simp only [intsOf] at h
      cases e : intsOf ds with
      | none => rw [e] at h; cases h
      | some l => rw [e] at h; cases h; rw [List.map_cons, intsOf_ok e rs]
    | _ => simp only [intsOf] at h; cases h
theorem boolsOf_ok : ∀ {ds : List D} {vs : List V} {is : List Bool}, boolsOf ds = some is → Rps G π H ds vs → vs = is.map V.bl
  | [], _, is, h, .nil => by simp only [boolsOf] at h; cases h; rfl
  | d :: ds, _, is, h, .cons r rs => by
    cases r with
    | bl i =>
      simp only [boolsOf] at h
      cases e : boolsOf ds with
      | none => rw [e] at h; cases h
      | some l => rw [e] at h; cases h; rw [List.map_cons, boolsOf_ok e rs]
    | _ => simp only [boolsOf] at h; cases h
theorem minI_mem : ∀ {ns : List Int} {i : Int}, minI ns = some i → i ∈ ns ∧ ∀ y ∈ ns, i ≤ y
  | [], i, h => by cases h
  | [a], i, h => by
    simp only [minI] at h; cases h
    exact ⟨by simp, by simp⟩
  | a :: b :: r, i, h => by
    simp only [minI] at h
    obtain ⟨j, hj, rfl⟩ := Option.map_eq_some_iff.mp h
    obtain ⟨h1, h2⟩ := minI_mem (ns := b :: r) hj
    split
    · rename_i c
      exact ⟨List.mem_cons_of_mem _ h1, fun y hy => (List.mem_cons.mp hy).elim (fun e => by omega) (h2 y)⟩
    · rename_i c
      exact ⟨List.mem_cons_self, fun y hy => (List.mem_cons.mp hy).elim (fun e => by omega) fun z => by have := h2 y z; omega⟩
theorem maxI_mem : ∀ {ns : List Int} {i : Int}, maxI ns = some i → i ∈ ns ∧ ∀ y ∈ ns, y ≤ i
  | [], i, h => by cases h
  | [a], i, h => by
    simp only [maxI] at h; cases h
    exact ⟨by simp, by simp⟩
  | a :: b :: r, i, h => by
    simp only [maxI] at h
    obtain ⟨j, hj, rfl⟩ := Option.map_eq_some_iff.mp h
    obtain ⟨h1, h2⟩ := maxI_mem (ns := b :: r) hj
    split
    · rename_i c
      exact ⟨List.mem_cons_of_mem _ h1, fun y hy => (List.mem_cons.mp hy).elim (fun e => by omega) (h2 y)⟩
    · rename_i c
      exact ⟨List.mem_cons_self, fun y hy => (List.mem_cons.mp hy).elim (fun e => by omega) fun z => by have := h2 y z; omega⟩
theorem minI_uniq {ns : List Int} {i m : Int} (h : minI ns = some i) (h1 : m ∈ ns) (h2 : ∀ y ∈ ns, m ≤ y) : m = i := by
  obtain ⟨a, b⟩ := minI_mem h
  have := b m h1
  have := h2 i a
  omega
theorem maxI_uniq {ns : List Int} {i m : Int} (h : maxI ns = some i) (h1 : m ∈ ns) (h2 : ∀ y ∈ ns, y ≤ m) : m = i := by
  obtain ⟨a, b⟩ := maxI_mem h
  have := b m h1
  have := h2 i a
  omega
theorem seq_or {K : PySem.W.Frag} {a : Addr} {vs : List V} (h : SqL K H a vs ∨ SqT K H a vs) : SqL K H a vs ∨ SqT K H a vs := h
theorem p_len (hK : G.K = X.K) : CallR X (.builtin "len") (rPD G .len) := by
  intro pins s σ H vs us Q I r h
  obtain ⟨π, M, ds, E, m, rs, h⟩ := h
  cases rs with
  | nil => exact h.elim
  | cons r1 rs =>
    rename_i d v _ _
    cases rs with
    | cons _ _ => exact h.elim
    | nil =>
      have h : post G (match items M d with
        | some ds => .ok (.int ds.length) M
        | none => .bad) π H Q E := h
      cases e : items M d with
      | none => rw [e] at h; exact h.elim
      | some xs =>
        rw [e] at h
        obtain ⟨a, ws, rfl, hq, hr⟩ := m.its r1 e
        refine call_len_seq pins s σ H _ us Q I r ⟨a, ws, rfl, hK ▸ hq, ?_⟩
        rw [← hr.length]
        exact post_here h m (.int _)
theorem p_abs : CallR X (.builtin "abs") (rPD G .abs) := by
  intro pins s σ H vs us Q I r h
  obtain ⟨π, M, ds, E, m, rs, h⟩ := h
  cases rs with
  | nil => exact h.elim
  | cons r1 rs =>
    cases rs with
    | cons _ _ => cases r1 <;> exact h.elim
    | nil =>
      cases r1 with
      | int i => exact call_abs pins s σ H _ us Q I r ⟨i, rfl, post_here h m (.int _)⟩
      | _ => exact h.elim
theorem p_int1 : CallR X (.type "int") (rPD G .int1) := by
  intro pins s σ H vs us Q I r h
  obtain ⟨π, M, ds, E, m, rs, h⟩ := h
  cases rs with
  | nil => exact h.elim
  | cons r1 rs =>
    cases rs with
    | cons _ _ => cases r1 <;> exact h.elim
    | nil =>
      cases r1 with
      | int i => exact call_int1 pins s σ H _ us Q I r (.inl ⟨i, rfl, post_here h m (.int _)⟩)
      | _ => exact h.elim
theorem p_min2 (hc : X.calm = true) : CallR X (.builtin "min") (rPD G .min2) := by
  intro pins s σ H vs us Q I r h
  obtain ⟨π, M, ds, E, m, rs, h⟩ := h
  cases rs with
  | nil => exact h.elim
  | cons r1 rs =>
    cases rs with
    | nil => cases r1 <;> exact h.elim
    | cons r2 rs =>
      cases rs with
      | cons _ _ => cases r1 <;> cases r2 <;> exact h.elim
      | nil =>
        cases r1 with
        | int i =>
          cases r2 with
          | int j => exact call_min2 hc pins s σ H _ us Q I r ⟨i, j, rfl, post_here h m (.int _)⟩
          | _ => exact h.elim
        | _ => cases r2 <;> exact h.elim
theorem p_max2 (hc : X.calm = true) : CallR X (.builtin "max") (rPD G .max2) := by
  intro pins s σ H vs us Q I r h
  obtain ⟨π, M, ds, E, m, rs, h⟩ := h
  cases rs with
  | nil => exact h.elim
  | cons r1 rs =>
    cases rs with
    | nil => cases r1 <;> exact h.elim
    | cons r2 rs =>
      cases rs with
      | cons _ _ => cases r1 <;> cases r2 <;> exact h.elim
      | nil =>
        cases r1 with
        | int i =>
          cases r2 with
          | int j => exact call_max2 hc pins s σ H _ us Q I r ⟨i, j, rfl, post_here h m (.int _)⟩
          | _ => exact h.elim
        | _ => cases r2 <;> exact h.elim
theorem p_tuple (hK : G.K = X.K) : CallR X (.type "tuple") (rPD G .tuple) := by
  intro pins s σ H vs us Q I r h
  obtain ⟨π, M, ds, E, m, rs, h⟩ := h
  cases rs with
  | nil => exact h.elim
  | cons r1 rs =>
    rename_i d v _ _
    cases rs with
    | cons _ _ => exact h.elim
    | nil =>
      have h : post G (match items M d with
        | some ds => .ok (.tup ds) M
        | none => .bad) π H Q E := h
      cases e : items M d with
      | none => rw [e] at h; exact h.elim
      | some xs =>
        rw [e] at h
        obtain ⟨a, ws, rfl, hq, hr⟩ := m.its r1 e
        rcases hq with hq | hq
        · exact call_tuple_of pins s σ H _ us Q I r ⟨a, ws, rfl, .inl ⟨hK ▸ hq, fun p hp => post_tup h m hr hp⟩⟩
        · exact call_tuple_of pins s σ H _ us Q I r ⟨a, ws, rfl, .inr ⟨hK ▸ hq, post_here h m (.tup hq hr)⟩⟩
theorem p_list (hK : G.K = X.K) : CallR X (.type "list") (rPD G .list) := by
  intro pins s σ H vs us Q I r h
  obtain ⟨π, M, ds, E, m, rs, h⟩ := h
  cases rs with
  | nil => exact h.elim
  | cons r1 rs =>
    rename_i d v _ _
    cases rs with
    | cons _ _ => exact h.elim
    | nil =>
      have h : post G (match items M d with
        | some ds => .ok (.loc M.length) (M ++ [.lst ds])
        | none => .bad) π H Q E := h
      cases e : items M d with
      | none => rw [e] at h; exact h.elim
      | some xs =>
        rw [e] at h
        obtain ⟨a, ws, rfl, hq, hr⟩ := m.its r1 e
        exact call_list_of pins s σ H _ us Q I r ⟨a, ws, rfl, hK ▸ hq, fun p hp => post_lst h m hr hp⟩
theorem one_loc {ds : List D} {vs : List V} {Q : VK} {E : XK} {p : Prim} {f : List D → R D} (rs : Rps G π H ds vs) (m : MemOk G π M H) (h : post G (prim M p ds) π H Q E)
    (hp : ∀ n, prim M p [.loc n] = match lstOf M n with
      | some xs => f xs
      | none => .bad) (hq : ∀ es, (∀ n, es ≠ [D.loc n]) → prim M p es = .bad) : ∃ n a xs ws, ds = [.loc n] ∧ vs = [.ref a] ∧ lstOf M n = some xs ∧ H a = some (.lst ws) ∧ Rps G π H xs ws ∧ post G (f xs) π H Q E := by
  have no : (∀ n, ds ≠ [D.loc n]) → False := fun z => by rw [hq ds z] at h; exact h
  cases rs with
  | nil => exact (no fun n z => by cases z).elim
  | cons r1 rs =>
    cases rs with
    | cons _ _ => exact (no fun n z => by cases z).elim
    | nil =>
      cases r1 with
      | @loc n a ha =>
        rw [hp] at h
        cases e : lstOf M n with
        | none => rw [e] at h; exact h.elim
        | some xs =>
          rw [e] at h
          obtain ⟨_, ws, q1, q2⟩ := m.lst e ha
          exact ⟨n, a, xs, ws, rfl, rfl, e, q1, q2, h⟩
      | _ => exact (no fun n z => by cases z).elim
theorem p_all (hK : G.K = X.K) (hc : X.calm = true) : CallR X (.builtin "all") (rPD G .all) := by
  intro pins s σ H vs us Q I r h
  obtain ⟨π, M, ds, E, m, rs, h⟩ := h
  obtain ⟨n, a, xs, ws, rfl, rfl, e, h1, h2, h⟩ := one_loc (p := .all) rs m h (fun _ => rfl) (fun es z => by
    unfold prim; split <;> first | rfl | (rename_i q; cases q; done) | exact absurd rfl (z _))
  cases e2 : boolsOf xs with
  | none => rw [e2] at h; exact h.elim
  | some bs =>
    rw [e2] at h
    exact cr_all hc pins s σ H _ us Q I r ⟨a, bs, rfl, .inl (.inl (by rw [h1, boolsOf_ok e2 h2])), post_here h m (.bl _)⟩
theorem p_any (hK : G.K = X.K) (hc : X.calm = true) : CallR X (.builtin "any") (rPD G .any) := by
  intro pins s σ H vs us Q I r h
  obtain ⟨π, M, ds, E, m, rs, h⟩ := h
  obtain ⟨n, a, xs, ws, rfl, rfl, e, h1, h2, h⟩ := one_loc (p := .any) rs m h (fun _ => rfl) (fun es z => by
    unfold prim; split <;> first | rfl | (rename_i q; cases q; done) | exact absurd rfl (z _))
  cases e2 : boolsOf xs with
  | none => rw [e2] at h; exact h.elim
  | some bs =>
    rw [e2] at h
    exact cr_any hc pins s σ H _ us Q I r ⟨a, bs, rfl, .inl (.inl (by rw [h1, boolsOf_ok e2 h2])), post_here h m (.bl _)⟩
theorem p_sum (hK : G.K = X.K) (hc : X.calm = true) : CallR X (.builtin "sum") (rPD G .sum) := by
  intro pins s σ H vs us Q I r h
  obtain ⟨π, M, ds, E, m, rs, h⟩ := h
  obtain ⟨n, a, xs, ws, rfl, rfl, e, h1, h2, h⟩ := one_loc (p := .sum) rs m h (fun _ => rfl) (fun es z => by
    unfold prim; split <;> first | rfl | (rename_i q; cases q; done) | exact absurd rfl (z _))
  cases e2 : intsOf xs with
  | none => rw [e2] at h; exact h.elim
  | some bs =>
    rw [e2] at h
    exact cr_sum hc pins s σ H _ us Q I r ⟨a, bs, rfl, .inl (.inl (by rw [h1, intsOf_ok e2 h2])), post_here h m (.int _)⟩
theorem p_minl (hK : G.K = X.K) (hc : X.calm = true) : CallR X (.builtin "min") (rPD G .minl) := by
  intro pins s σ H vs us Q I r h
  obtain ⟨π, M, ds, E, m, rs, h⟩ := h
  obtain ⟨n, a, xs, ws, rfl, rfl, e, h1, h2, h⟩ := one_loc (p := .minl) rs m h (fun _ => rfl) (fun es z => by
    unfold prim; split <;> first | rfl | (rename_i q; cases q; done) | exact absurd rfl (z _))
  cases e2 : intsOf xs with
  | none => rw [e2] at h; exact h.elim
  | some bs =>
    rw [e2] at h
    simp only at h
    cases e3 : minI bs with
    | none => rw [e3] at h; exact h.elim
    | some i =>
      rw [e3] at h
      refine cr_min hc pins s σ H _ us Q I r ⟨a, bs, rfl, .inl (.inl (by rw [h1, intsOf_ok e2 h2])), ?_, fun k k1 k2 => ?_⟩
      · cases bs with
        | nil => cases e3
        | cons _ _ => exact Nat.zero_lt_succ _
      · rw [minI_uniq e3 k1 k2]; exact post_here h m (.int _)
theorem p_maxl (hK : G.K = X.K) (hc : X.calm = true) : CallR X (.builtin "max") (rPD G .maxl) := by
  intro pins s σ H vs us Q I r h
  obtain ⟨π, M, ds, E, m, rs, h⟩ := h
  obtain ⟨n, a, xs, ws, rfl, rfl, e, h1, h2, h⟩ := one_loc (p := .maxl) rs m h (fun _ => rfl) (fun es z => by
    unfold prim; split <;> first | rfl | (rename_i q; cases q; done) | exact absurd rfl (z _))
  cases e2 : intsOf xs with
  | none => rw [e2] at h; exact h.elim
  | some bs =>
    rw [e2] at h
    simp only at h
    cases e3 : maxI bs with
    | none => rw [e3] at h; exact h.elim
    | some i =>
      rw [e3] at h
      refine cr_max hc pins s σ H _ us Q I r ⟨a, bs, rfl, .inl (.inl (by rw [h1, intsOf_ok e2 h2])), ?_, fun k k1 k2 => ?_⟩
      · cases bs with
        | nil => cases e3
        | cons _ _ => exact Nat.zero_lt_succ _
      · rw [maxI_uniq e3 k1 k2]; exact post_here h m (.int _)
def tyAll : List String := ["int", "bool", "str", "tuple", "list", "dict"]
theorem kitB_ok : ∀ a ∈ ["NoneType", "bool", "int", "str", "tuple", "list", "dict"], ∀ b ∈ tyAll, kitB a b = some (b == a || (a == "bool" && b == "int")) := by decide +kernel
theorem tyX_ok {d : D} {v : V} {t : String} (m : MemOk G π M H) (r : Rp G π H d v) (hi : tyOf M d = some t) : TyX G.K H v (.type t) ∧ t ∈ ["NoneType", "bool", "int", "str", "tuple", "list", "dict"] := by
  cases r with
  | non => cases hi; exact ⟨.base .non, by decide⟩
  | bl b => cases hi; exact ⟨.base (.bl b), by decide⟩
  | int i => cases hi; exact ⟨.base (.int i), by decide⟩
  | str s _ _ => cases hi; exact ⟨.base (.str s), by decide⟩
  | tup hq hr =>
    cases hi
    rcases hq with (hq | ⟨o, hq⟩) | ⟨o, its, n, hk, hc, _⟩
    · exact ⟨.base (.tup hq), by decide⟩
    · exact ⟨.fTuple hq, by decide⟩
    · exact ⟨.kTuple hk hc, by decide⟩
  | @loc n a ha =>
    have hi : (match M[n]? with
      | some (.lst _) => some "list"
      | some (.dik _) => some "dict"
      | _ => none) = some t := hi
    cases e : M[n]? with
    | none => rw [e] at hi; cases hi
    | some c =>
      rw [e] at hi
      cases c with
      | lst ds =>
        cases hi
        obtain ⟨vs, q, _⟩ := m.cell n _ a e ha
        exact ⟨.base (.lst q), by decide⟩
      | dik kvs => exact (m.cell n _ a e ha).elim
      | ins _ _ => cases hi
  | fn g => cases hi
  | ro =>
    cases hi
    rcases m.scr with ⟨o, its, n, hk, hc, _⟩ | ⟨o, q⟩ | ⟨q, _⟩
    · exact ⟨.kList hk hc, by decide⟩
    · exact ⟨.base (.frz q), by decide⟩
    · exact ⟨.base (.lst q), by decide⟩
theorem kit_one {K : PySem.W.Frag} {a b : String} (h1 : a ∈ ["NoneType", "bool", "int", "str", "tuple", "list", "dict"]) (h2 : b ∈ tyAll) : PySem.W.kitOne K (.type a) (.type b) = some (b == a || (a == "bool" && b == "int")) := kit_ty (kitB_ok a h1 b h2)
theorem kit_any {K : PySem.W.Frag} {a : String} (h1 : a ∈ ["NoneType", "bool", "int", "str", "tuple", "list", "dict"]) : ∀ {ts : List String}, (∀ b ∈ ts, b ∈ tyAll) → PySem.W.kitAny K (.type a) (ts.map Value.type) = some (ts.contains a || (a == "bool" && ts.contains "int"))
  | [], _ => by rw [List.map_nil, kitAny_nil]; simp
  | b :: ts, h => by
    have ih := kit_any (K := K) h1 (ts := ts) fun c hc => h c (List.mem_cons_of_mem _ hc)
    refine kitAny_cons (kit_one h1 (h b List.mem_cons_self)) (fun e => ?_) (fun e => ?_)
    · rw [ih]
      congr 1
      rw [Bool.or_eq_false_iff, Bool.and_eq_false_iff] at e
      obtain ⟨e1, e2⟩ := e
      have e3 : (a == b) = false := by rw [← e1]; exact Bool.beq_comm
      rw [List.contains_cons, List.contains_cons, e3, Bool.false_or]
      rcases e2 with e2 | e2
      · rw [e2]; simp
      · have e4 : ("int" == b) = false := by rw [← e2]; exact Bool.beq_comm
        rw [e4, Bool.false_or]
    · rw [Bool.or_eq_true_iff, Bool.and_eq_true_iff] at e
      rw [List.contains_cons, List.contains_cons]
      rcases e with e | ⟨e1, e2⟩
      · rw [show (a == b) = true from by rw [← e]; exact Bool.beq_comm]; simp
      · rw [e1, show ("int" == b) = true from by rw [← e2]; exact Bool.beq_comm]; simp
/-- isinstance by one type -/
def rIs1 (G : Gm) (T : String) : List V → Hp → VK → Prop := fun vs H Q => ∃ v, vs = [v, .ty T] ∧ T ∈ tyAll ∧ rPD G (.isinst [T]) [v] H Q
theorem is1_ok (hK : G.K = X.K) {T : String} : CallR X (.builtin "isinstance") (rIs1 G T) := by
  intro pins s σ H vs us Q I r h
  obtain ⟨v, rfl, hT, π, M, ds, E, m, rs, h⟩ := h
  cases rs with
  | cons r1 rs =>
    rename_i d ds
    cases rs
    have h : post G (match isI M [T] d with
      | some b => .ok (.bl b) M
      | none => .bad) π H Q E := h
    unfold isI at h
    cases e : tyOf M d with
    | none => rw [e] at h; exact h.elim
    | some t =>
      rw [e] at h
      obtain ⟨h1, h2⟩ := tyX_ok m r1 e
      refine call_isi pins s σ H _ us Q I r ⟨_, _, _, _, _, rfl, .ty T, hK ▸ h1, kit_one h2 hT, ?_⟩
      have q := post_here h m (.bl _)
      have e1 : ([T].contains t || (t == "bool" && [T].contains "int")) = (T == t || (t == "bool" && T == "int")) := by
        simp only [List.contains_cons, List.contains_nil, Bool.or_false]
        rw [show (t == T) = (T == t) from Bool.beq_comm, show ("int" == T) = (T == "int") from Bool.beq_comm]
      rw [← e1]; exact q
/-- .. by some -/
def rIsN (G : Gm) (ts : List String) : List V → Hp → VK → Prop := fun vs H Q => ∃ v tp, vs = [v, .ref tp] ∧ (∀ b ∈ ts, b ∈ tyAll) ∧ H tp = some (.tup (ts.map V.ty)) ∧ rPD G (.isinst ts) [v] H Q
theorem clsAll : ∀ ts : List String, Paired ClsV (ts.map V.ty) (ts.map Value.type)
  | [] => .nil
  | t :: ts => .cons (.ty t) (clsAll ts)
theorem isN_ok (hK : G.K = X.K) {ts : List String} : CallR X (.builtin "isinstance") (rIsN G ts) := by
  intro pins s σ H vs us Q I r h
  obtain ⟨v, tp, rfl, hT, htp, π, M, ds, E, m, rs, h⟩ := h
  cases rs with
  | cons r1 rs =>
    rename_i d ds
    cases rs
    have h : post G (match isI M ts d with
      | some b => .ok (.bl b) M
      | none => .bad) π H Q E := h
    unfold isI at h
    cases e : tyOf M d with
    | none => rw [e] at h; exact h.elim
    | some t =>
      rw [e] at h
      obtain ⟨h1, h2⟩ := tyX_ok m r1 e
      exact call_isiT pins s σ H _ us Q I r ⟨_, tp, _, _, _, _, rfl, htp, clsAll ts, hK ▸ h1, kit_any h2 hT, post_here h m (.bl _)⟩
end
end DL

/-! DL: readings: what an expression's evaluation gives, in plain values -/
namespace DL
open PySem PySem.Spec PyProof.Rows L2
def EnvOk (G : Gm) (π : List Addr) (H : Hp) (ρ : Env) (σ : L2.St) : Prop := ρ.length = σ.length ∧ ∀ (i : Nat) (d : D), ρ[i]? = some (some d) → ∃ v, σ[i]? = some (some v) ∧ Rp G π H d v
theorem EnvOk.mono {G : Gm} {π π' : List Addr} {H H' : Hp} {ρ : Env} {σ : L2.St} (e : EnvOk G π H ρ σ) (x : Nx G π π' H H') : EnvOk G π' H' ρ σ :=
  ⟨e.1, fun i d h => let ⟨v, h1, h2⟩ := e.2 i d h; ⟨v, h1, h2.mono x⟩⟩
theorem EnvOk.set {G : Gm} {π : List Addr} {H : Hp} {ρ : Env} {σ : L2.St} {i : Nat} {d : D} {v : V} (e : EnvOk G π H ρ σ) (r : Rp G π H d v) : EnvOk G π H (ρ.set i (some d)) (σ.set i (some v)) := by
  refine ⟨by simp [e.1], fun j d' h => ?_⟩
  by_cases hj : i = j
  · subst hj
    by_cases hl : i < ρ.length
    · rw [List.getElem?_set_self hl] at h
      rw [List.getElem?_set_self (by rw [← e.1]; exact hl)]
      cases h; exact ⟨v, rfl, r⟩
    · rw [List.getElem?_eq_none (by simpa using hl)] at h; cases h
  · rw [List.getElem?_set_ne hj] at h ⊢
    exact e.2 j d' h
theorem EnvOk.wipe {G : Gm} {π : List Addr} {H : Hp} {ρ : Env} {σ : L2.St} (e : EnvOk G π H ρ σ) : ∀ vs : List Nat, EnvOk G π H (DL.wipe ρ vs) (L2.wipe σ vs)
  | [] => e
  | i :: vs => by
    have ih := EnvOk.wipe e vs
    show EnvOk G π H ((DL.wipe ρ vs).set i none) ((L2.wipe σ vs).set i none)
    refine ⟨by simp [ih.1], fun j d h => ?_⟩
    by_cases hj : i = j
    · subst hj
      by_cases hl : i < (DL.wipe ρ vs).length
      · rw [List.getElem?_set_self hl] at h; cases h
      · rw [List.getElem?_eq_none (by simpa using hl)] at h; cases h
    · rw [List.getElem?_set_ne hj] at h ⊢
      exact ih.2 j d h
/-- a reading by plain values -/
def TX {α β : Type} (G : Gm) (W : WX) (rel : List Addr → Hp → α → β → Prop) (f : Env → Mem → R α) (σ : L2.St) (H : Hp) (Q : β → Hp → Prop) : Prop :=
  ∃ π M ρ, EnvOk G π H ρ σ ∧ MemOk G π M H ∧ pst G rel (f ρ M) π H Q (fun cv dx H' => W cv dx σ H')
abbrev TD (G : Gm) (W : WX) (f : Env → Mem → R D) : TE := TX G W (Rp G) f
abbrev TB (G : Gm) (W : WX) (f : Env → Mem → R Bool) : TT := TX G W (fun _ _ a b => a = b) f
abbrev TAs (G : Gm) (W : WX) (f : Env → Mem → R (List D)) : TA := TX G W (Rps G) f
section
variable {X : Cx} {e : Expr} {es : List Expr}
theorem pe_imp {t t' : TE} (h : PE X e t) (k : ∀ σ H Q, t' σ H Q → t σ H Q) : PE X e t' := ⟨fun pins s σ H Q I hw => h.run pins s σ H Q I (k σ H Q hw)⟩
theorem pt_imp {t t' : TT} (h : PT X e t) (k : ∀ σ H Q, t' σ H Q → t σ H Q) : PT X e t' := ⟨fun pins s σ H Q I hw => h.run pins s σ H Q I (k σ H Q hw)⟩
theorem pw_imp {t t' : TT} (h : PW X e t) (k : ∀ σ H Q, t' σ H Q → t σ H Q) : PW X e t' := ⟨fun whole pins s σ H Q I hw => h.run whole pins s σ H Q I (k σ H Q hw)⟩
theorem pa_imp {t t' : TA} (h : PA X es t) (k : ∀ σ H Q, t' σ H Q → t σ H Q) : PA X es t' := ⟨fun pos pins s σ H Q I hw => h.run pos pins s σ H Q I (k σ H Q hw)⟩
theorem po_imp {o : Option Expr} {t t' : TO} (h : PO X o t) (k : ∀ σ H Q, t' σ H Q → t σ H Q) : PO X o t' := ⟨fun pins s σ H Q I hw => h.run pins s σ H Q I (k σ H Q hw)⟩
theorem pi_imp {tg : Expr} {t t' : TI} (h : PI X tg e t) (k : ∀ σ H Q, t' σ H Q → t σ H Q) : PI X tg e t' := ⟨fun pins s σ H Q I hw => h.run pins s σ H Q I (k σ H Q hw)⟩
theorem pg_imp {t t' : TG} (h : PG X e t) (k : ∀ v σ H Q, t' v σ H Q → t v σ H Q) : PG X e t' := ⟨fun pins s σ H v u Q I r hw => h.run pins s σ H v u Q I r (k v σ H Q hw)⟩
theorem pg_or {t t' : TG} (h : PG X e t) (h' : PG X e t') : PG X e (fun v σ H Q => t v σ H Q ∨ t' v σ H Q) := ⟨fun pins s σ H v u Q I r hw => hw.elim (h.run pins s σ H v u Q I r) (h'.run pins s σ H v u Q I r)⟩
theorem pi_or {tg : Expr} {t t' : TI} (h : PI X tg e t) (h' : PI X tg e t') : PI X tg e (fun σ H Q => t σ H Q ∨ t' σ H Q) := ⟨fun pins s σ H Q I hw => hw.elim (h.run pins s σ H Q I) (h'.run pins s σ H Q I)⟩
theorem ps_imp {st : Stmt} {t t' : TS} (h : PS X st t) (k : ∀ D σ H, t' D σ H → t D σ H) : PS X st t' := ⟨fun pins s σ H D I hw => h.run pins s σ H D I (k D σ H hw)⟩
theorem pss_imp {st : List Stmt} {t t' : TS} (h : PSs X st t) (k : ∀ D σ H, t' D σ H → t D σ H) : PSs X st t' := ⟨fun pins s σ H D I hw => h.run pins s σ H D I (k D σ H hw)⟩
end
section
variable {X : Cx} {G : Gm} {W : WX} {π : List Addr} {M : Mem} {H : Hp} {σ : L2.St} {ρ : Env} {pos : Pos}
/-- first one, then another -/
theorem tx_bind {α β γ δ : Type} {rel : List Addr → Hp → α → β → Prop} {rel2 : List Addr → Hp → γ → δ → Prop} {f : Env → Mem → R α} {g : Env → α → Mem → R γ} {Q : δ → Hp → Prop}
    (h : TX G W rel2 (fun ρ M => (f ρ M).bind (g ρ)) σ H Q) :
    TX G W rel f σ H (fun v H1 => ∃ π M ρ d, EnvOk G π H1 ρ σ ∧ MemOk G π M H1 ∧ rel π H1 d v ∧ pst G rel2 (g ρ d M) π H1 Q (fun cv dx H' => W cv dx σ H')) := by
  obtain ⟨π, M, ρ, he, hm, h⟩ := h
  exact ⟨π, M, ρ, he, hm, pst_imp (pst_bind h) fun v H1 ⟨π1, M1, d, x, m, r, h⟩ => ⟨π1, M1, ρ, d, he.mono x, m, r, h⟩⟩
/-- the next one of a row -/
theorem tx_next {α β γ δ : Type} {rel : List Addr → Hp → α → β → Prop} {rel2 : List Addr → Hp → γ → δ → Prop} {f : Env → Mem → R α} {g : α → Mem → R γ} {Q : δ → Hp → Prop}
    (he : EnvOk G π H ρ σ) (hm : MemOk G π M H) (h : pst G rel2 ((f ρ M).bind g) π H Q (fun cv dx H' => W cv dx σ H')) :
    TX G W rel f σ H (fun v H1 => ∃ π1 M1 d, Nx G π π1 H H1 ∧ EnvOk G π1 H1 ρ σ ∧ MemOk G π1 M1 H1 ∧ rel π1 H1 d v ∧ pst G rel2 (g d M1) π1 H1 Q (fun cv dx H' => W cv dx σ H')) :=
  ⟨π, M, ρ, he, hm, pst_imp (pst_bind h) fun v H1 ⟨π1, M1, d, x, m, r, h⟩ => ⟨π1, M1, d, x, he.mono x, m, r, h⟩⟩
/-- the last one -/
theorem tx_last {α β : Type} {rel : List Addr → Hp → α → β → Prop} {f : Env → Mem → R α} {Q : β → Hp → Prop} (he : EnvOk G π H ρ σ) (hm : MemOk G π M H) (h : pst G rel (f ρ M) π H Q (fun cv dx H' => W cv dx σ H')) : TX G W rel f σ H Q := ⟨π, M, ρ, he, hm, h⟩
theorem tx_imp {α β : Type} {rel : List Addr → Hp → α → β → Prop} {f : Env → Mem → R α} {σ : L2.St} {H : Hp} {Q Q' : β → Hp → Prop} (h : TX G W rel f σ H Q) (k : ∀ v H', Q v H' → Q' v H') : TX G W rel f σ H Q' := by
  obtain ⟨π, M, ρ, he, hm, h⟩ := h
  exact ⟨π, M, ρ, he, hm, pst_imp h k⟩
/-- .. with the equation -/
theorem tx_bindE {α β γ δ : Type} {rel : List Addr → Hp → α → β → Prop} {rel2 : List Addr → Hp → γ → δ → Prop} {f : Env → Mem → R α} {g : Env → α → Mem → R γ} {Q : δ → Hp → Prop}
    (h : TX G W rel2 (fun ρ M => (f ρ M).bind (g ρ)) σ H Q) :
    TX G W rel f σ H (fun v H1 => ∃ π M ρ d, (∃ ρ0 M0, f ρ0 M0 = .ok d M) ∧ EnvOk G π H1 ρ σ ∧ MemOk G π M H1 ∧ rel π H1 d v ∧ pst G rel2 (g ρ d M) π H1 Q (fun cv dx H' => W cv dx σ H')) := by
  obtain ⟨π, M, ρ, he, hm, h⟩ := h
  refine ⟨π, M, ρ, he, hm, ?_⟩
  have h' : pst G rel2 ((f ρ M).bind (g ρ)) π H Q (fun cv dx H' => W cv dx σ H') := h
  generalize e : f ρ M = r at h' ⊢
  cases r with
  | bad => exact h'
  | exc _ _ => exact h'
  | ok d M' => exact fun π' v H' x m r => ⟨π', M', ρ, d, ⟨ρ, M, e⟩, he.mono x, m, r, pst_base h' x⟩
/-! ### names, constants -/
def fVar (i : Nat) : Env → Mem → R D := fun ρ M => match ρ[i]? with
  | some (some d) => .ok d M
  | _ => .bad
theorem pd_var {i : Nat} {x : Str} (hN : X.N[i]? = some x) (hv : Vis X.env.scope x) (hd : (x == ("__debug__" : Str)) = false) (hcd : (x == ("__classdict__" : Str)) = false) : PE X (.Name x pos) (TD G W (fVar i)) := by
  refine pe_imp (pe_var hN hv hd hcd) fun σ H Q ⟨π, M, ρ, he, hm, h⟩ => ?_
  unfold fVar at h
  split at h
  · rename_i d hd
    obtain ⟨v, h1, h2⟩ := he.2 i d hd
    exact ⟨v, h1, post_here h hm h2⟩
  · exact h.elim
def fCst (d : D) : Env → Mem → R D := fun _ M => .ok d M
theorem pd_int {i : Int} {j : Nat} : PE X (.Constant (.int i) j pos) (TD G W (fCst (.int i))) := pe_imp pe_int fun σ H Q ⟨π, M, ρ, he, hm, h⟩ => post_here h hm (.int i)
theorem pd_bl {b : Bool} {j : Nat} : PE X (.Constant (.bool b) j pos) (TD G W (fCst (.bl b))) := pe_imp pe_bl fun σ H Q ⟨π, M, ρ, he, hm, h⟩ => post_here h hm (.bl b)
theorem pd_non {j : Nat} : PE X (.Constant .none j pos) (TD G W (fCst .non)) := pe_imp pe_non fun σ H Q ⟨π, M, ρ, he, hm, h⟩ => post_here h hm .non
theorem pd_str {x : Str} {j : Nat} (h1 : PyData.strOk x = true) (h2 : x.length ≤ sizeLine) : PE X (.Constant (.str x) j pos) (TD G W (fCst (.str x))) := pe_imp pe_str fun σ H Q ⟨π, M, ρ, he, hm, h⟩ => post_here h hm (.str x h1 h2)
theorem pd_glob {x : Str} {u : Value} {v : V} {d : D} (hg : Gl X x) (hm : X.mg x = some u) (r : RelV v u) (hr : ∀ π H, Rp G π H d v) (hd : (x == ("__debug__" : Str)) = false) : PE X (.Name x pos) (TD G W (fCst d)) :=
  pe_imp (pe_glob hg hm r hd) fun σ H Q ⟨π, M, ρ, he, hm, h⟩ => post_here h hm (hr π H)
/-! ### arguments -/
def fNil : Env → Mem → R (List D) := fun _ M => .ok [] M
def fCons (f : Env → Mem → R D) (g : Env → Mem → R (List D)) : Env → Mem → R (List D) := fun ρ M => (f ρ M).bind fun d M1 => (g ρ M1).bind fun ds M2 => .ok (d :: ds) M2
theorem pda_nil : PA X [] (TAs G W fNil) := pa_imp pa_nil fun σ H Q ⟨π, M, ρ, he, hm, h⟩ => h _ _ _ .refl hm .nil
theorem pda_cons {e : Expr} {es : List Expr} {f : Env → Mem → R D} {g : Env → Mem → R (List D)} (h1 : PE X e (TD G W f)) (h2 : PA X es (TAs G W g)) (hs : starEach (e :: es) X.env = (false, eval e X.env) :: starEach es X.env) : PA X (e :: es) (TAs G W (fCons f g)) := by
  refine pa_imp (pa_cons h1 h2 hs) fun σ H Q h => ?_
  refine tx_imp (tx_bind (rel := Rp G) h) fun v H1 ⟨π, M, ρ, d, he, hm, r, h⟩ => ?_
  refine tx_imp (tx_next (rel := Rps G) he hm h) fun vs H2 ⟨π2, M2, ds, x, he2, hm2, rs, h⟩ => ?_
  exact h _ _ _ .refl hm2 (.cons (r.mono x) rs)
theorem pd_tup {es : List Expr} {k : Nat} {f : Env → Mem → R (List D)} (h1 : PA X es (TAs G W f)) (hl : ∀ ρ M ds M', f ρ M = .ok ds M' → ds.length ≤ sizeLine) : PE X (.Tuple es k pos) (TD G W fun ρ M => (f ρ M).bind fun ds M1 => .ok (.tup ds) M1) := by
  refine pe_imp (pe_tup h1) fun σ H Q h => ?_
  refine tx_imp (tx_bindE (rel := Rps G) h) fun vs H1 ⟨π, M, ρ, ds, ⟨ρ0, M0, e⟩, he, hm, r, h⟩ => ?_
  exact ⟨by rw [← r.length]; exact hl _ _ _ _ e, fun p hp => post_tup h hm r hp⟩
theorem pd_lst {es : List Expr} {f : Env → Mem → R (List D)} (h1 : PA X es (TAs G W f)) (hl : ∀ ρ M ds M', f ρ M = .ok ds M' → ds.length ≤ sizeLine) : PE X (.List es pos) (TD G W fun ρ M => (f ρ M).bind fun ds M1 => .ok (.loc M1.length) (M1 ++ [.lst ds])) := by
  refine pe_imp (pe_lst h1) fun σ H Q h => ?_
  refine tx_imp (tx_bindE (rel := Rps G) h) fun vs H1 ⟨π, M, ρ, ds, ⟨ρ0, M0, e⟩, he, hm, r, h⟩ => ?_
  exact ⟨by rw [← r.length]; exact hl _ _ _ _ e, fun p hp => post_lst h hm r hp⟩
/-! ### operators -/
theorem pd_op {a b : Expr} {op : Operator} {f g : Env → Mem → R D} {k : Mem → D → D → R D} (ho : OpR X (binaryOp op) (r2D G k)) (h1 : PE X a (TD G W f)) (h2 : PE X b (TD G W g)) :
    PE X (.BinOp a op b pos) (TD G W fun ρ M => (f ρ M).bind fun d M1 => (g ρ M1).bind fun e M2 => k M2 d e) := by
  refine pe_imp (pe_op ho h1 h2) fun σ H Q h => ?_
  refine tx_imp (tx_bind (rel := Rp G) h) fun v H1 ⟨π, M, ρ, d, he, hm, r, h⟩ => ?_
  refine tx_imp (tx_next (rel := Rp G) he hm h) fun u H2 ⟨π2, M2, e, x, he2, hm2, r2, h⟩ => ?_
  exact ⟨π2, M2, d, e, _, hm2, r.mono x, r2, h⟩
theorem pd_cmp {a b : Expr} {op : CmpOp} {f g : Env → Mem → R D} {k : Mem → D → D → R D} (ho : OpR X (compareOp op) (r2D G k)) (h1 : PE X a (TD G W f)) (h2 : PE X b (TD G W g)) (hm : behindInMarks op b = false) :
    PE X (.Compare a [op] [b] pos) (TD G W fun ρ M => (f ρ M).bind fun d M1 => (g ρ M1).bind fun e M2 => k M2 d e) := by
  refine pe_imp (pe_cmpR ho h1 h2 hm) fun σ H Q h => ?_
  refine tx_imp (tx_bind (rel := Rp G) h) fun v H1 ⟨π, M, ρ, d, he, hm, r, h⟩ => ?_
  refine tx_imp (tx_next (rel := Rp G) he hm h) fun u H2 ⟨π2, M2, e, x, he2, hm2, r2, h⟩ => ?_
  exact ⟨π2, M2, d, e, _, hm2, r.mono x, r2, h⟩
/-- a test of a comparison -/
def fC (o : COp) (f g : Env → Mem → R D) : Env → Mem → R D := fun ρ M => (f ρ M).bind fun d M1 => (g ρ M1).bind fun e M2 => opt ((cmpop M2 o d e).map .bl) M2
def fT (f : Env → Mem → R D) : Env → Mem → R Bool := fun ρ M => (f ρ M).bind fun d M1 => opt (truth M1 d) M1
theorem bind_bind {α β γ : Type} (r : R α) (f : α → Mem → R β) (g : β → Mem → R γ) : (r.bind f).bind g = r.bind fun a M => (f a M).bind g := by cases r <;> rfl
theorem bind_imp {α β : Type} (r : R α) {f g : α → Mem → R β} (h : ∀ a M, f a M = g a M) : r.bind f = r.bind g := by
  cases r with
  | ok a M => exact h a M
  | _ => rfl
theorem tx_eq {α β : Type} {rel : List Addr → Hp → α → β → Prop} {f g : Env → Mem → R α} {Q : β → Hp → Prop} (e : ∀ ρ M, f ρ M = g ρ M) (h : TX G W rel f σ H Q) : TX G W rel g σ H Q := by
  have : f = g := funext fun ρ => funext fun M => e ρ M
  rw [← this]; exact h
theorem pdt_cmp {a b : Expr} {o : COp} {f g : Env → Mem → R D} (hK : G.K = X.K) (hu : X.A.units + 64 < cLine) (h1 : PE X a (TD G W f)) (h2 : PE X b (TD G W g)) (hm : behindInMarks o.op b = false) :
    PT X (.Compare a [o.op] [b] pos) (TB G W (fT (fC o f g))) := by
  refine pt_imp (pt_cmpR (op_cmp hK hu o) h1 h2 hm) fun σ H Q h => ?_
  have h' : TX G W (fun _ _ a b => a = b) (fun ρ M => (f ρ M).bind fun d M1 => (g ρ M1).bind fun e M2 => opt (cmpop M2 o d e) M2) σ H Q := by
    refine tx_eq (fun ρ M => ?_) h
    unfold fT fC
    rw [bind_bind]
    refine bind_imp _ fun d M1 => ?_
    rw [bind_bind]
    refine bind_imp _ fun e M2 => ?_
    cases cmpop M2 o d e with
    | none => rfl
    | some b => rfl
  refine tx_imp (tx_bind h') fun v H1 ⟨π, M, ρ, d, he, hm, r, h⟩ => ?_
  refine tx_imp (tx_next (rel := Rp G) he hm h) fun u H2 ⟨π2, M2, e, x, he2, hm2, r2, h⟩ => ?_
  refine ⟨π2, M2, d, e, fun _ _ _ => True, hm2, r.mono x, r2, ?_⟩
  cases ec : cmpop M2 o d e with
  | none => rw [ec] at h; exact h.elim
  | some b =>
    rw [ec] at h
    show post G (opt ((cmpop M2 o d e).map D.bl) M2) π2 H2 _ _
    rw [ec]
    intro π' v' H' x' m' r'
    cases r'
    exact ⟨b, rfl, h _ _ _ x' m' rfl⟩
/-- a < b < c -/
def fC2 (o p : COp) (f g k : Env → Mem → R D) : Env → Mem → R D := fun ρ M => (f ρ M).bind fun d M1 => (g ρ M1).bind fun e M2 => match cmpop M2 o d e with
    | some true => (k ρ M2).bind fun f M3 => opt ((cmpop M3 p e f).map .bl) M3
    | some false => .ok (.bl false) M2
    | none => .bad
theorem chain_ok {a b c : Expr} {o p : COp} {f g k : Env → Mem → R D} {Q : VK} (h : TD G W (fC2 o p f g k) σ H Q) : tChain (r2C G o) (r2C G p) (TD G W f) (TD G W g) (TD G W k) σ H Q := by
  refine tx_imp (tx_bind (rel := Rp G) h) fun v H1 ⟨π, M, ρ, d, he, hm, r, h⟩ => ?_
  refine tx_imp (tx_next (rel := Rp G) he hm h) fun u H2 ⟨π2, M2, e, x, he2, hm2, r2, h⟩ => ?_
  refine ⟨π2, M2, d, e, fun _ _ _ => True, hm2, r.mono x, r2, ?_⟩
  cases ec : cmpop M2 o d e with
  | none => rw [ec] at h; exact h.elim
  | some t =>
    rw [ec] at h
    show post G (opt ((cmpop M2 o d e).map D.bl) M2) π2 H2 _ _
    rw [ec]
    intro π' v' H' x' m' r'
    cases r'
    refine ⟨t, rfl, ?_⟩
    cases t with
    | false =>
      rw [if_neg (by decide)]
      exact h _ _ _ x' m' (.bl false)
    | true =>
      rw [if_pos rfl]
      refine tx_imp (tx_next (rel := Rp G) (he2.mono x') m' (pst_base h x')) fun w H3 ⟨π3, M3, c', x3, he3, hm3, r3, h⟩ => ?_
      exact ⟨π3, M3, e, c', _, hm3, (r2.mono x').mono x3, r3, h⟩
theorem pd_cmp2 {a b c : Expr} {o p : COp} {f g k : Env → Mem → R D} (hK : G.K = X.K) (hu : X.A.units + 64 < cLine) (h1 : PE X a (TD G W f)) (h2 : PE X b (TD G W g)) (h3 : PE X c (TD G W k)) (hm : lastMarks [o.op, p.op] [b, c] = false) :
    PE X (.Compare a [o.op, p.op] [b, c] pos) (TD G W (fC2 o p f g k)) :=
  pe_imp (pe_chain (op_cmp hK hu o) (op_cmp hK hu p) h1 h2 h3 hm) fun σ H Q h => chain_ok (a := a) (b := b) (c := c) h
theorem pdt_cmp2 {a b c : Expr} {o p : COp} {f g k : Env → Mem → R D} (hK : G.K = X.K) (hu : X.A.units + 64 < cLine) (h1 : PE X a (TD G W f)) (h2 : PE X b (TD G W g)) (h3 : PE X c (TD G W k)) (hm : lastMarks [o.op, p.op] [b, c] = false) :
    PT X (.Compare a [o.op, p.op] [b, c] pos) (TB G W (fT (fC2 o p f g k))) := by
  refine pt_imp (pt_chain (op_cmp hK hu o) (op_cmp hK hu p) h1 h2 h3 hm) fun σ H Q h => ?_
  refine chain_ok (a := a) (b := b) (c := c) ?_
  obtain ⟨π, M, ρ, he, hm, h⟩ := h
  refine ⟨π, M, ρ, he, hm, ?_⟩
  have key : ∀ r : R D, (∀ d M', r = .ok d M' → ∃ b, d = .bl b) → pst G (fun _ _ a b => a = b) (r.bind fun d M1 => opt (truth M1 d) M1) π H Q (fun cv dx H' => W cv dx σ H') → pst G (Rp G) r π H (fun x H' => ∃ k, x = .bl k ∧ Q k H') (fun cv dx H' => W cv dx σ H') := fun r hr hp => by
    cases r with
    | bad => exact hp
    | exc _ _ => exact hp
    | ok d M' =>
      obtain ⟨b, rfl⟩ := hr d M' rfl
      intro π' v' H' x' m' r'
      cases r'
      exact ⟨b, rfl, hp _ _ _ x' m' rfl⟩
  refine key _ (fun d M' e => ?_) h
  unfold fC2 at e
  cases e1 : f ρ M with
  | bad => rw [e1] at e; cases e
  | exc _ _ => rw [e1] at e; cases e
  | ok d1 M1 =>
    rw [e1] at e
    cases e2 : g ρ M1 with
    | bad => simp only [R.bind, e2] at e; cases e
    | exc _ _ => simp only [R.bind, e2] at e; cases e
    | ok d2 M2 =>
      simp only [R.bind, e2] at e
      cases e3 : cmpop M2 o d1 d2 with
      | none => rw [e3] at e; cases e
      | some t =>
        rw [e3] at e
        cases t with
        | false => cases e; exact ⟨_, rfl⟩
        | true =>
          simp only at e
          cases e4 : k ρ M2 with
          | bad => rw [e4] at e; cases e
          | exc _ _ => rw [e4] at e; cases e
          | ok d3 M3 =>
            rw [e4] at e
            simp only at e
            cases e5 : cmpop M3 p d2 d3 with
            | none => rw [e5] at e; cases e
            | some t => rw [e5] at e; cases e; exact ⟨_, rfl⟩
/-! ### truth -/
theorem pdt_truth {a : Expr} {f : Env → Mem → R D} (hK : G.K = X.K) (h : PE X a (TD G W f)) (ht : ∀ whole, isTrue a X.env whole = (do let v ← whole; standAt a.pos; holding [v] (truthy v))) : PT X a (TB G W (fT f)) := by
  refine pt_imp (pt_truth h ht) fun σ H Q h => ?_
  refine tx_imp (tx_bind (rel := Rp G) h) fun v H1 ⟨π, M, ρ, d, he, hm, r, h⟩ => ?_
  cases e : truth M d with
  | none => rw [e] at h; exact h.elim
  | some t =>
    rw [e] at h
    exact ⟨t, hK ▸ truth_ok hm e r, h _ _ _ .refl hm rfl⟩
def fNot (f : Env → Mem → R D) : Env → Mem → R D := fun ρ M => (f ρ M).bind fun d M1 => opt (unop M1 .not d) M1
theorem pd_not {a : Expr} {f : Env → Mem → R D} (hK : G.K = X.K) (h : PE X a (TD G W f)) : PE X (.UnaryOp .Not a pos) (TD G W (fNot f)) := by
  refine pe_imp (pe_notT h) fun σ H Q h => ?_
  refine tx_imp (tx_bind (rel := Rp G) h) fun v H1 ⟨π, M, ρ, d, he, hm, r, h⟩ => ?_
  have h : pst G (Rp G) (opt ((truth M d).map fun b => D.bl (!b)) M) π H1 Q (fun cv dx H' => W cv dx σ H') := by
    revert h
    cases d <;> exact fun h => h
  cases e : truth M d with
  | none => rw [e] at h; exact h.elim
  | some t =>
    rw [e] at h
    exact ⟨t, hK ▸ truth_ok hm e r, h _ _ _ .refl hm (.bl _)⟩
theorem fT_not {f : Env → Mem → R D} (ρ : Env) (M : Mem) : fT (fNot f) ρ M = (fT f ρ M).bind fun b M1 => .ok (!b) M1 := by
  unfold fT fNot
  rw [bind_bind, bind_bind]
  refine bind_imp _ fun d M1 => ?_
  have : unop M1 .not d = (truth M1 d).map fun b => D.bl (!b) := by cases d <;> rfl
  rw [this]
  cases truth M1 d with
  | none => rfl
  | some b => rfl
theorem pdt_not {a : Expr} {f : Env → Mem → R D} (h : PT X a (TB G W (fT f))) : PT X (.UnaryOp .Not a pos) (TB G W (fT (fNot f))) := by
  refine pt_imp (pt_not h) fun σ H Q h => ?_
  refine tx_imp (tx_bind (rel := fun _ _ a b => a = b) (tx_eq fT_not h)) fun v H1 ⟨π, M, ρ, d, he, hm, r, h⟩ => ?_
  subst r
  exact h _ _ _ .refl hm rfl
theorem pd_neg {a : Expr} {f : Env → Mem → R D} (h : PE X a (TD G W f)) : PE X (.UnaryOp .USub a pos) (TD G W fun ρ M => (f ρ M).bind fun d M1 => opt (unop M1 .neg d) M1) := by
  refine pe_imp (pe_un un_neg h) fun σ H Q h => ?_
  refine tx_imp (tx_bind (rel := Rp G) h) fun v H1 ⟨π, M, ρ, d, he, hm, r, h⟩ => ?_
  cases r with
  | int i => exact ⟨i, rfl, h _ _ _ .refl hm (.int _)⟩
  | _ => exact h.elim
def fAnd (f g : Env → Mem → R D) : Env → Mem → R D := fun ρ M => (f ρ M).bind fun d M1 => match truth M1 d with
    | some true => g ρ M1
    | some false => .ok d M1
    | none => .bad
def fOr (f g : Env → Mem → R D) : Env → Mem → R D := fun ρ M => (f ρ M).bind fun d M1 => match truth M1 d with
    | some true => .ok d M1
    | some false => g ρ M1
    | none => .bad
def fIf (c f g : Env → Mem → R D) : Env → Mem → R D := fun ρ M => (c ρ M).bind fun d M1 => match truth M1 d with
    | some true => f ρ M1
    | some false => g ρ M1
    | none => .bad
theorem pd_and {a b : Expr} {rest : List Expr} {f g : Env → Mem → R D} (hK : G.K = X.K) (h1 : PE X a (TD G W f)) (h2 : PE X (.BoolOp .And (b :: rest) pos) (TD G W g)) : PE X (.BoolOp .And (a :: b :: rest) pos) (TD G W (fAnd f g)) := by
  refine pe_imp (pe_andT h1 h2) fun σ H Q h => ?_
  refine tx_imp (tx_bind (rel := Rp G) h) fun v H1 ⟨π, M, ρ, d, he, hm, r, h⟩ => ?_
  cases e : truth M d with
  | none => rw [e] at h; exact h.elim
  | some t =>
    rw [e] at h
    refine ⟨t, hK ▸ truth_ok hm e r, ?_⟩
    cases t with
    | true => rw [if_pos rfl]; exact ⟨π, M, ρ, he, hm, h⟩
    | false => rw [if_neg (by decide)]; exact post_here h hm r
theorem pd_or {a b : Expr} {rest : List Expr} {f g : Env → Mem → R D} (hK : G.K = X.K) (h1 : PE X a (TD G W f)) (h2 : PE X (.BoolOp .Or (b :: rest) pos) (TD G W g)) : PE X (.BoolOp .Or (a :: b :: rest) pos) (TD G W (fOr f g)) := by
  refine pe_imp (pe_orT h1 h2) fun σ H Q h => ?_
  refine tx_imp (tx_bind (rel := Rp G) h) fun v H1 ⟨π, M, ρ, d, he, hm, r, h⟩ => ?_
  cases e : truth M d with
  | none => rw [e] at h; exact h.elim
  | some t =>
    rw [e] at h
    refine ⟨t, hK ▸ truth_ok hm e r, ?_⟩
    cases t with
    | false => rw [if_neg (by decide)]; exact ⟨π, M, ρ, he, hm, h⟩
    | true => rw [if_pos rfl]; exact post_here h hm r
theorem fT_and {f g : Env → Mem → R D} (ρ : Env) (M : Mem) : fT (fAnd f g) ρ M = (fT f ρ M).bind fun b M1 => match b with
    | true => fT g ρ M1
    | false => .ok false M1 := by
  unfold fT fAnd
  rw [bind_bind, bind_bind]
  refine bind_imp _ fun d M1 => ?_
  cases e : truth M1 d with
  | none => rfl
  | some b =>
    cases b with
    | true => rfl
    | false => simp only [R.bind, opt, e]
theorem fT_or {f g : Env → Mem → R D} (ρ : Env) (M : Mem) : fT (fOr f g) ρ M = (fT f ρ M).bind fun b M1 => match b with
    | true => .ok true M1
    | false => fT g ρ M1 := by
  unfold fT fOr
  rw [bind_bind, bind_bind]
  refine bind_imp _ fun d M1 => ?_
  cases e : truth M1 d with
  | none => rfl
  | some b =>
    cases b with
    | false => rfl
    | true => simp only [R.bind, opt, e]
theorem fT_if {c f g : Env → Mem → R D} (ρ : Env) (M : Mem) : fT (fIf c f g) ρ M = (fT c ρ M).bind fun b M1 => match b with
    | true => fT f ρ M1
    | false => fT g ρ M1 := by
  unfold fT fIf
  rw [bind_bind, bind_bind]
  refine bind_imp _ fun d M1 => ?_
  cases e : truth M1 d with
  | none => rfl
  | some b => cases b <;> rfl
theorem pdw_and {a b : Expr} {rest : List Expr} {f g : Env → Mem → R D} (h1 : PT X a (TB G W (fT f))) (h2 : PW X (.BoolOp .And (b :: rest) pos) (TB G W (fT g))) : PW X (.BoolOp .And (a :: b :: rest) pos) (TB G W (fT (fAnd f g))) := by
  refine pw_imp (pw_and h1 h2) fun σ H Q h => ?_
  refine tx_imp (tx_bind (rel := fun _ _ a b => a = b) (tx_eq fT_and h)) fun v H1 ⟨π, M, ρ, d, he, hm, r, h⟩ => ?_
  subst r
  cases d with
  | true => rw [if_pos rfl]; exact ⟨π, M, ρ, he, hm, h⟩
  | false => rw [if_neg (by decide)]; exact h _ _ _ .refl hm rfl
theorem pdw_or {a b : Expr} {rest : List Expr} {f g : Env → Mem → R D} (h1 : PT X a (TB G W (fT f))) (h2 : PW X (.BoolOp .Or (b :: rest) pos) (TB G W (fT g))) : PW X (.BoolOp .Or (a :: b :: rest) pos) (TB G W (fT (fOr f g))) := by
  refine pw_imp (pw_or h1 h2) fun σ H Q h => ?_
  refine tx_imp (tx_bind (rel := fun _ _ a b => a = b) (tx_eq fT_or h)) fun v H1 ⟨π, M, ρ, d, he, hm, r, h⟩ => ?_
  subst r
  cases d with
  | false => rw [if_neg (by decide)]; exact ⟨π, M, ρ, he, hm, h⟩
  | true => rw [if_pos rfl]; exact h _ _ _ .refl hm rfl
theorem pd_if {c a b : Expr} {k f g : Env → Mem → R D} (h0 : PT X c (TB G W (fT k))) (h1 : PE X a (TD G W f)) (h2 : PE X b (TD G W g)) : PE X (.IfExp c a b pos) (TD G W (fIf k f g)) := by
  refine pe_imp (pe_ifExp h0 h1 h2) fun σ H Q h => ?_
  have e : ∀ ρ M, fIf k f g ρ M = (fT k ρ M).bind fun b M1 => match b with
    | true => f ρ M1
    | false => g ρ M1 := fun ρ M => by
    unfold fIf fT
    rw [bind_bind]
    refine bind_imp _ fun d M1 => ?_
    cases e : truth M1 d with
    | none => rfl
    | some b => cases b <;> rfl
  refine tx_imp (tx_bind (rel := fun _ _ a b => a = b) (tx_eq e h)) fun v H1 ⟨π, M, ρ, d, he, hm, r, h⟩ => ?_
  subst r
  cases d with
  | true => rw [if_pos rfl]; exact ⟨π, M, ρ, he, hm, h⟩
  | false => rw [if_neg (by decide)]; exact ⟨π, M, ρ, he, hm, h⟩
theorem pdt_if {c a b : Expr} {k f g : Env → Mem → R D} (h0 : PT X c (TB G W (fT k))) (h1 : PT X a (TB G W (fT f))) (h2 : PT X b (TB G W (fT g))) : PT X (.IfExp c a b pos) (TB G W (fT (fIf k f g))) := by
  refine ⟨fun pins s σ H Q I h => ?_⟩
  have h' := tx_bind (rel := fun _ _ a b => a = b) (tx_eq fT_if h)
  rw [PySem.arm_isTrue_IfExp]
  refine wpAny_bind (thn (h0.run pins s σ H _ I h') fun d s1 ⟨H1, I1, π, M, ρ, d', he, hm, r, h⟩ => ?_)
  subst r
  cases d' with
  | true => exact h1.run pins s1 σ H1 Q I1 ⟨π, M, ρ, he, hm, h⟩
  | false => exact h2.run pins s1 σ H1 Q I1 ⟨π, M, ρ, he, hm, h⟩
/-! ### items, slices -/
theorem pd_idx {a b : Expr} {f g : Env → Mem → R D} (hK : G.K = X.K) (h1 : PE X a (TD G W f)) (h2 : PE X b (TD G W g)) (hp : PlainIx b) :
    PE X (.Subscript a b pos) (TD G W fun ρ M => (f ρ M).bind fun d M1 => (g ρ M1).bind fun e M2 => opt (idx M2 d e) M2) := by
  refine pe_imp (pe_ix (ix_D hK) h1 h2 hp) fun σ H Q h => ?_
  refine tx_imp (tx_bind (rel := Rp G) h) fun v H1 ⟨π, M, ρ, d, he, hm, r, h⟩ => ?_
  refine tx_imp (tx_next (rel := Rp G) he hm h) fun u H2 ⟨π2, M2, e, x, he2, hm2, r2, h⟩ => ?_
  exact ⟨π2, M2, d, e, _, hm2, r.mono x, r2, h⟩
def fNo : Env → Mem → R (Option Int) := fun _ M => .ok none M
def fYes (f : Env → Mem → R D) : Env → Mem → R (Option Int) := fun ρ M => (f ρ M).bind fun d M1 => match d with
    | .int i => .ok (some i) M1
    | _ => .bad
abbrev TOs (G : Gm) (W : WX) (f : Env → Mem → R (Option Int)) : TO := TX G W (fun _ _ a b => a = b) f
theorem pdo_no : PO X none (TOs G W fNo) := po_imp po_none fun σ H Q ⟨π, M, ρ, he, hm, h⟩ => h _ _ _ .refl hm rfl
theorem pdo_yes {a : Expr} {f : Env → Mem → R D} (h : PE X a (TD G W f)) : PO X (some a) (TOs G W (fYes f)) := by
  refine po_imp (po_some h) fun σ H Q h => ?_
  refine tx_imp (tx_bind (rel := Rp G) h) fun v H1 ⟨π, M, ρ, d, he, hm, r, h⟩ => ?_
  cases r with
  | int i => exact ⟨i, rfl, h _ _ _ .refl hm rfl⟩
  | _ => exact h.elim
theorem pd_slc {a : Expr} {lo hi : Option Expr} {p2 : Pos} {f : Env → Mem → R D} {l u : Env → Mem → R (Option Int)} (hK : G.K = X.K) (h1 : PE X a (TD G W f)) (h2 : PO X lo (TOs G W l)) (h3 : PO X hi (TOs G W u)) :
    PE X (.Subscript a (.Slice lo hi none p2) pos) (TD G W fun ρ M => (f ρ M).bind fun d M1 => (l ρ M1).bind fun i M2 => (u ρ M2).bind fun j M3 => slc M3 i j d) := by
  refine pe_imp (pe_slice (sl_D hK) h1 h2 h3) fun σ H Q h => ?_
  refine tx_imp (tx_bind (rel := Rp G) h) fun v H1 ⟨π, M, ρ, d, he, hm, r, h⟩ => ?_
  refine tx_imp (tx_next (rel := fun _ _ a b => a = b) he hm h) fun i H2 ⟨π2, M2, i', x, he2, hm2, r2, h⟩ => ?_
  refine tx_imp (tx_next (rel := fun _ _ a b => a = b) he2 hm2 h) fun j H3 ⟨π3, M3, j', x3, he3, hm3, r3, h⟩ => ?_
  subst r2
  subst r3
  exact ⟨π3, M3, d, _, hm3, (r.mono x).mono x3, h⟩
/-! ### calls -/
theorem pd_prim {x : Str} {p0 : Pos} {id : String} {e : Expr} {es : List Expr} {p : Prim} {f : Env → Mem → R (List D)} (hc : CallR X (.builtin id) (rPD G p)) (hg : Gl X x) (hm : X.mg x = none) (hv : bootBuiltins x = some (.builtin id)) (h1 : PA X (e :: es) (TAs G W f))
    (hn : x ≠ "__name__") (hdb : (x == ("__debug__" : Str)) = false) (he : starEach (e :: es) X.env = (false, eval e X.env) :: starEach es X.env) (hpl : (backTo pos (starEach es X.env)).any (·.1) = false) :
    PE X (.Call (.Name x p0) (e :: es) [] pos) (TD G W fun ρ M => (f ρ M).bind fun ds M1 => prim M1 p ds) := by
  refine pe_imp (pe_callB hc hg hm hv h1 hn hdb he hpl) fun σ H Q h => ?_
  refine tx_imp (tx_bind (rel := Rps G) h) fun v H1 ⟨π, M, ρ, d, he, hm, r, h⟩ => ⟨π, M, d, _, hm, r, h⟩
theorem pd_primT {x : Str} {p0 : Pos} {id : String} {e : Expr} {es : List Expr} {p : Prim} {f : Env → Mem → R (List D)} (hc : CallR X (.type id) (rPD G p)) (hg : Gl X x) (hm : X.mg x = none) (hv : bootBuiltins x = some (.type id)) (h1 : PA X (e :: es) (TAs G W f))
    (hn : x ≠ "__name__") (hdb : (x == ("__debug__" : Str)) = false) (he : starEach (e :: es) X.env = (false, eval e X.env) :: starEach es X.env) (hpl : (backTo pos (starEach es X.env)).any (·.1) = false) :
    PE X (.Call (.Name x p0) (e :: es) [] pos) (TD G W fun ρ M => (f ρ M).bind fun ds M1 => prim M1 p ds) := by
  refine pe_imp (pe_callTy hc hg hm hv h1 hn hdb he hpl) fun σ H Q h => ?_
  refine tx_imp (tx_bind (rel := Rps G) h) fun v H1 ⟨π, M, ρ, d, he, hm, r, h⟩ => ⟨π, M, d, _, hm, r, h⟩
/-- what a def promises -/
def spD (G : Gm) (call : List D → Mem → R D) (n : Nat) : Sp := fun vs H Q E => vs.length = n ∧ ∃ π M ds, MemOk G π M H ∧ Rps G π H ds vs ∧ pst G (Rp G) (call ds M) π H Q E
theorem pd_call {x : Str} {p0 : Pos} {e : Expr} {es : List Expr} {k n : Nat} {fa : Addr} {fd : FuncData} {ps : List Str} {cl : List D → Mem → R D} {f : Env → Mem → R (List D)} (tk : Takes X W)
    (F : FnOk X.prog X.w X.K X.mg X.base (L2.CX X.prog X.w) k fa fd ps (spD G cl n)) (hr : Room k X.A) (hg : Gl X x) (hm : X.mg x = some (.ref fa)) (hk : PySem.W.keepIn X.K (.ref fa) = true) (hb : Binds X.K fd ps []) (h1 : PA X (e :: es) (TAs G W f))
    (hlen : ∀ ρ M ds M', f ρ M = .ok ds M' → ds.length = n) (hdb : (x == ("__debug__" : Str)) = false) (he : starEach (e :: es) X.env = (false, eval e X.env) :: starEach es X.env) (hpl : (backTo pos (starEach es X.env)).any (·.1) = false) :
    PE X (.Call (.Name x p0) (e :: es) [] pos) (TD G W fun ρ M => (f ρ M).bind fun ds M1 => cl ds M1) := by
  refine pe_imp (pe_callSD (E := fun σ cv dx H' => W cv dx σ H') F hr hg hm hk hb .nil (fun σ pins H s e s' I c => tk _ _ (XE.of_call I (fun _ _ _ h => h) c)) h1 hdb he hpl) fun σ H Q h => ?_
  refine tx_imp (tx_bindE (rel := Rps G) h) fun vs H1 ⟨π, M, ρ, ds, ⟨ρ0, M0, e⟩, he, hm, r, h⟩ => ?_
  exact ⟨by rw [List.append_nil, ← r.length]; exact hlen _ _ _ _ e, π, M, ds, hm, by rw [List.append_nil]; exact r, h⟩
theorem pd_call0 {x : Str} {p0 : Pos} {k n : Nat} {fa : Addr} {fd : FuncData} {ps : List Str} {cl : List D → Mem → R D} (tk : Takes X W)
    (F : FnOk X.prog X.w X.K X.mg X.base (L2.CX X.prog X.w) k fa fd ps (spD G cl n)) (hr : Room k X.A) (hg : Gl X x) (hm : X.mg x = some (.ref fa)) (hk : PySem.W.keepIn X.K (.ref fa) = true) (hb : Binds X.K fd ps []) (hn : n = 0) (hdb : (x == ("__debug__" : Str)) = false) :
    PE X (.Call (.Name x p0) [] [] pos) (TD G W fun _ M => cl [] M) := by
  refine ⟨fun pins s σ H Q I h => ?_⟩
  refine wpAny_Call_Name_kw (ld_glob I hg hm ?_ hdb)
  obtain ⟨π, M, ρ, he, hmm, h⟩ := h
  exact PySem.W.callWith_K0 I.kIn hk (run_fnSD (us := []) (vs := []) (E := fun σ cv dx H' => W cv dx σ H') F hr hb .nil (fun pins H s e s' I c => tk _ _ (XE.of_call I (fun _ _ _ h => h) c)) I .nil ⟨by simp [hn], π, M, [], hmm, .nil, h⟩)
end
end DL

/-! DL: methods of lists, isinstance, ranges, what is walked, targets, comprehensions -/
namespace DL
open PySem PySem.Spec PyProof.Rows L2
section
variable {X : Cx} {G : Gm} {W : WX} {π : List Addr} {M : Mem} {H : Hp} {σ : L2.St} {ρ : Env} {pos : Pos}
def fIs (ts : List String) (f : Env → Mem → R D) : Env → Mem → R D := fun ρ M => (fCons f fNil ρ M).bind fun ds M1 => prim M1 (.isinst ts) ds
theorem fIs_eq (ts : List String) (f : Env → Mem → R D) (ρ : Env) (M : Mem) : fIs ts f ρ M = (f ρ M).bind fun d M1 => prim M1 (.isinst ts) [d] := by
  unfold fIs fCons fNil
  rw [bind_bind]
  refine bind_imp _ fun d M1 => ?_
  rfl
/-- isinstance(e, T) -/
theorem pd_is1 {p0 p1 : Pos} {e : Expr} {T : String} {x : Str} {f : Env → Mem → R D} (hK : G.K = X.K) (hT : T ∈ tyAll) (hg : Gl X "isinstance") (hm : X.mg "isinstance" = none) (hgx : Gl X x) (hmx : X.mg x = none) (hvx : bootBuiltins x = some (.type T)) (hnx : x ≠ "__name__") (hdx : (x == ("__debug__" : Str)) = false) (h1 : PE X e (TD G W f))
    (he : starEach (e :: [.Name x p1]) X.env = (false, eval e X.env) :: starEach [.Name x p1] X.env) :
    PE X (.Call (.Name "isinstance" p0) [e, .Name x p1] [] pos) (TD G W (fIs [T] f)) := by
  refine pe_imp (pe_callB (is1_ok (G := G) hK (T := T)) hg hm (by decide +kernel) (pa_cons h1 (pa_cons (pe_bltn (v := .ty T) hgx hmx hvx rfl hnx hdx) pa_nil rfl) he) (by decide) (by decide) he rfl) fun σ H Q h => ?_
  refine tx_imp (tx_bind (rel := Rp G) (tx_eq (fIs_eq [T] f) h)) fun v H1 ⟨π, M, ρ, d, he, hm, r, h⟩ => ?_
  exact ⟨v, rfl, hT, π, M, [d], _, hm, .cons r .nil, h⟩
theorem names_pa {ts : List (Str × Pos × String)} (h : ∀ t ∈ ts, Gl X t.1 ∧ X.mg t.1 = none ∧ bootBuiltins t.1 = some (.type t.2.2) ∧ t.1 ≠ "__name__" ∧ (t.1 == ("__debug__" : Str)) = false) :
    PA X (ts.map fun t => .Name t.1 t.2.1) (fun _ H Q => Q (ts.map fun t => V.ty t.2.2) H) := by
  induction ts with
  | nil => exact pa_nil
  | cons t ts ih =>
    obtain ⟨h1, h2, h3, h4, h5⟩ := h t List.mem_cons_self
    have := pa_cons (pe_bltn (pos := t.2.1) (v := .ty t.2.2) h1 h2 h3 rfl h4 h5) (ih fun t ht => h t (List.mem_cons_of_mem _ ht)) rfl
    exact pa_imp this fun σ H Q hq => hq
/-- isinstance(e, (T, ..)) -/
theorem pd_isN {p0 p1 : Pos} {kk : Nat} {e : Expr} {ts : List (Str × Pos × String)} {f : Env → Mem → R D} (hK : G.K = X.K) (hT : ∀ b ∈ ts.map (·.2.2), b ∈ tyAll) (hg : Gl X "isinstance") (hm : X.mg "isinstance" = none)
    (hx : ∀ t ∈ ts, Gl X t.1 ∧ X.mg t.1 = none ∧ bootBuiltins t.1 = some (.type t.2.2) ∧ t.1 ≠ "__name__" ∧ (t.1 == ("__debug__" : Str)) = false) (hl : ts.length ≤ 100) (h1 : PE X e (TD G W f))
    (he : starEach (e :: [.Tuple (ts.map fun t => .Name t.1 t.2.1) kk p1]) X.env = (false, eval e X.env) :: starEach [.Tuple (ts.map fun t => .Name t.1 t.2.1) kk p1] X.env) :
    PE X (.Call (.Name "isinstance" p0) [e, .Tuple (ts.map fun t => .Name t.1 t.2.1) kk p1] [] pos) (TD G W (fIs (ts.map (·.2.2)) f)) := by
  refine pe_imp (pe_callB (isN_ok (G := G) hK (ts := ts.map (·.2.2))) hg hm (by decide +kernel) (pa_cons h1 (pa_cons (pe_tup (names_pa hx)) pa_nil rfl) he) (by decide) (by decide) he rfl) fun σ H Q h => ?_
  refine tx_imp (tx_bind (rel := Rp G) (tx_eq (fIs_eq _ f) h)) fun v H1 ⟨π, M, ρ, d, he, hm, r, h⟩ => ?_
  refine ⟨by rw [List.length_map, sizeLine_eq]; omega, fun p hp => ?_⟩
  refine ⟨v, p, rfl, hT, by rw [upd_same, List.map_map]; rfl, π, M, [d], _, hm.new hp, .cons (r.mono (nx_new hp)) .nil, pst_base h (nx_new hp)⟩
/-! ### methods of lists -/
def fM (m : Mth) (f g : Env → Mem → R D) : Env → Mem → R D := fun ρ M => (f ρ M).bind fun d M1 => chk (isL M1 d) ((g ρ M1).bind fun e M2 => mth M2 m d e)
def rM (G : Gm) (m : Mth) : V → List V → Hp → VK → Prop := fun x xs H Q => ∃ v π M d e E, xs = [v] ∧ MemOk G π M H ∧ Rp G π H d x ∧ Rp G π H e v ∧ post G (mth M m d e) π H Q E
theorem m_append : MtM X "list.append" (rM G .append) := by
  intro pins s σ H x vs v us Q I rx rv h
  obtain ⟨y, π, M, d, e, E, rfl, m, rd, re, h⟩ := h
  cases rd with
  | @loc n a ha =>
    have h : post G (match lstOf M n with
      | some ds => chk (decide (ds.length < line)) (.ok .non (M.set n (.lst (ds ++ [e]))))
      | none => .bad) π H Q E := h
    cases el : lstOf M n with
    | none => rw [el] at h; exact h.elim
    | some ds =>
      rw [el] at h
      obtain ⟨hc, h⟩ := post_chk h
      obtain ⟨hn, ws, hw, hr⟩ := m.lst el ha
      have hc' := of_decide_eq_true hc
      rw [line_eq, hr.length] at hc'
      exact mt_append pins s σ H _ _ v us Q I rx rv ⟨a, ws, y, rfl, rfl, hw, hc', h _ _ _ (nx_lst hw) (m.write hn ha hw (hr.append (.cons re .nil))) .non⟩
  | _ => exact h.elim
theorem m_extend : MtM X "list.extend" (rM G .extend) := by
  intro pins s σ H x vs v us Q I rx rv h
  obtain ⟨y, π, M, d, e, E, rfl, m, rd, re, h⟩ := h
  cases rd with
  | @loc n a ha =>
    cases re with
    | @loc k b hb =>
      have h : post G (match lstOf M n with
        | some ds => match lstOf M k with
          | some es => chk (decide (ds.length + es.length ≤ line)) (.ok .non (M.set n (.lst (ds ++ es))))
          | none => .bad
        | none => .bad) π H Q E := h
      cases el : lstOf M n with
      | none => rw [el] at h; exact h.elim
      | some ds =>
        rw [el] at h
        simp only at h
        cases el2 : lstOf M k with
        | none => rw [el2] at h; exact h.elim
        | some es =>
          rw [el2] at h
          obtain ⟨hc, h⟩ := post_chk h
          obtain ⟨hn, ws, hw, hr⟩ := m.lst el ha
          obtain ⟨hn2, ws2, hw2, hr2⟩ := m.lst el2 hb
          have hc' := of_decide_eq_true hc
          rw [line_eq, hr.length, hr2.length] at hc'
          exact mt_extend pins s σ H _ _ v us Q I rx rv ⟨a, b, ws, ws2, rfl, rfl, hw, hw2, hc', h _ _ _ (nx_lst hw) (m.write hn ha hw (hr.append hr2)) .non⟩
    | _ => exact h.elim
  | _ => exact h.elim
theorem pd_mth {name : Str} {id : String} {o e : Expr} {m : Mth} {apos cpos : Pos} {f g : Env → Mem → R D} (slot : Slot "list" name id) (hty : typeOf (.builtin id) = pure (.type "method_descriptor")) (hm : MtM X id (rM G m)) (h1 : PE X o (TD G W f)) (h2 : PE X e (TD G W g))
    (hbase : attributeBase o name X.env (eval o X.env) = eval o X.env) (hs : starEach (e :: []) X.env = (false, eval e X.env) :: starEach [] X.env) (hline : (apos.endLine == cpos.line) = true) :
    PE X (.Call (.Attribute o name apos) [e] [] cpos) (TD G W (fM m f g)) := by
  refine pe_imp (pe_bm PySem.F.plainAttrs_list slot hty hm h1 (pa_cons h2 pa_nil hs) hbase (by rw [hs]; rfl) hline hs rfl) fun σ H Q h => ?_
  refine tx_imp (tx_bind (rel := Rp G) h) fun v H1 ⟨π, M, ρ, d, he, hm, r, h⟩ => ?_
  obtain ⟨hc, h⟩ := post_chk h
  cases r with
  | @loc n a ha =>
    refine ⟨.inl ⟨rfl, ?_⟩, ?_⟩
    · have hc : (lstOf M n).isSome = true := hc
      cases el : lstOf M n with
      | none => rw [el] at hc; cases hc
      | some ds =>
        obtain ⟨_, ws, hw, _⟩ := hm.lst el ha
        exact ⟨ws, .inl (.inl hw)⟩
    · refine tx_imp (tx_next (rel := Rp G) he hm h) fun u H2 ⟨π2, M2, e, x, he2, hm2, r2, h⟩ => ?_
      exact ⟨u, π2, M2, _, e, _, rfl, hm2, .loc (x.at ha), r2, h⟩
  | _ => cases hc
/-! ### list(range(..)), tuple(range(..)) -/
theorem rngOk_ok {i j : Int} (h : rngOk i j = true) : RgOk i j := by
  unfold rngOk small62 line at h
  simp only [Bool.and_eq_true, decide_eq_true_eq] at h
  exact ⟨by omega, by omega, by omega, by omega, by omega⟩
theorem rngL_ok (i j : Int) : Rps G π H (rngL i j) (rgV i j) := by
  unfold rngL rgV
  generalize List.range (j - i).toNat = l
  induction l with
  | nil => exact .nil
  | cons k l ih => exact .cons (.int _) ih
def fR1 (p : Prim) (f : Env → Mem → R D) : Env → Mem → R D := fun ρ M => (fCons f fNil ρ M).bind fun ds M1 => prim M1 p ds
def fR2 (p : Prim) (f g : Env → Mem → R D) : Env → Mem → R D := fun ρ M => (fCons f (fCons g fNil) ρ M).bind fun ds M1 => prim M1 p ds
theorem fR1_eq (p : Prim) (f : Env → Mem → R D) (ρ : Env) (M : Mem) : fR1 p f ρ M = (f ρ M).bind fun d M1 => prim M1 p [d] := by
  unfold fR1 fCons fNil
  rw [bind_bind]
  exact bind_imp _ fun d M1 => rfl
theorem fR2_eq (p : Prim) (f g : Env → Mem → R D) (ρ : Env) (M : Mem) : fR2 p f g ρ M = (f ρ M).bind fun d M1 => (g ρ M1).bind fun e M2 => prim M2 p [d, e] := by
  unfold fR2 fCons fNil
  rw [bind_bind]
  refine bind_imp _ fun d M1 => ?_
  rw [bind_bind, bind_bind]
  exact bind_imp _ fun e M2 => rfl
theorem pd_lr1 {p0 p1 : Pos} {a : Expr} {p2 : Pos} {f : Env → Mem → R D} (hc : X.calm = true) (hg : Gl X "list") (hm : X.mg "list" = none) (hg2 : Gl X "range") (hm2 : X.mg "range" = none) (h1 : PE X a (TD G W f)) (na : starEach [a] X.env = (false, eval a X.env) :: starEach [] X.env) :
    PE X (.Call (.Name "list" p0) [.Call (.Name "range" p1) [a] [] p2] [] pos) (TD G W (fR1 .lrange f)) := by
  refine pe_imp (pe_listRg hc hg hm (prg_1 hg2 hm2 h1 na)) fun σ H Q h => ?_
  refine tx_imp (tx_bind (rel := Rp G) (tx_eq (fR1_eq _ f) h)) fun v H1 ⟨π, M, ρ, d, he, hm, r, h⟩ => ?_
  cases r with
  | int i =>
    obtain ⟨hk, h⟩ := post_chk (show post G (chk (rngOk 0 i) _) π H1 Q _ from h)
    exact ⟨i, rfl, rngOk_ok hk, fun q hq => post_lst h hm (rngL_ok _ _) hq⟩
  | _ => exact h.elim
theorem pd_lr2 {p0 p1 : Pos} {a b : Expr} {p2 : Pos} {f g : Env → Mem → R D} (hc : X.calm = true) (hg : Gl X "list") (hm : X.mg "list" = none) (hg2 : Gl X "range") (hm2 : X.mg "range" = none) (h1 : PE X a (TD G W f)) (h2 : PE X b (TD G W g)) (na : starEach [a, b] X.env = (false, eval a X.env) :: starEach [b] X.env)
    (nb : starEach [b] X.env = (false, eval b X.env) :: starEach [] X.env) :
    PE X (.Call (.Name "list" p0) [.Call (.Name "range" p1) [a, b] [] p2] [] pos) (TD G W (fR2 .lrange f g)) := by
  refine pe_imp (pe_listRg hc hg hm (prg_2 hg2 hm2 h1 h2 na nb (by rw [nb]; rfl))) fun σ H Q h => ?_
  refine tx_imp (tx_bind (rel := Rp G) (tx_eq (fR2_eq _ f g) h)) fun v H1 ⟨π, M, ρ, d, he, hm, r, h⟩ => ?_
  refine tx_imp (tx_next (rel := Rp G) he hm h) fun u H2 ⟨π2, M2, e, x, he2, hm2, r2, h⟩ => ?_
  cases r with
  | int i =>
    cases r2 with
    | int j =>
      obtain ⟨hk, h⟩ := post_chk (show post G (chk (rngOk i j) _) π2 H2 Q _ from h)
      exact ⟨i, j, rfl, rfl, rngOk_ok hk, fun q hq => post_lst h hm2 (rngL_ok _ _) hq⟩
    | _ => exact h.elim
  | _ => cases r2 <;> exact h.elim
theorem pd_tr1 {p0 p1 : Pos} {a : Expr} {p2 : Pos} {f : Env → Mem → R D} (hc : X.calm = true) (hg : Gl X "tuple") (hm : X.mg "tuple" = none) (hg2 : Gl X "range") (hm2 : X.mg "range" = none) (h1 : PE X a (TD G W f)) (na : starEach [a] X.env = (false, eval a X.env) :: starEach [] X.env) :
    PE X (.Call (.Name "tuple" p0) [.Call (.Name "range" p1) [a] [] p2] [] pos) (TD G W (fR1 .trange f)) := by
  refine pe_imp (pe_tupRg hc hg hm (prg_1 hg2 hm2 h1 na)) fun σ H Q h => ?_
  refine tx_imp (tx_bind (rel := Rp G) (tx_eq (fR1_eq _ f) h)) fun v H1 ⟨π, M, ρ, d, he, hm, r, h⟩ => ?_
  cases r with
  | int i =>
    obtain ⟨hk, h⟩ := post_chk (show post G (chk (rngOk 0 i) _) π H1 Q _ from h)
    exact ⟨i, rfl, rngOk_ok hk, fun q hq => post_tup h hm (rngL_ok _ _) hq⟩
  | _ => exact h.elim
theorem pd_tr2 {p0 p1 : Pos} {a b : Expr} {p2 : Pos} {f g : Env → Mem → R D} (hc : X.calm = true) (hg : Gl X "tuple") (hm : X.mg "tuple" = none) (hg2 : Gl X "range") (hm2 : X.mg "range" = none) (h1 : PE X a (TD G W f)) (h2 : PE X b (TD G W g)) (na : starEach [a, b] X.env = (false, eval a X.env) :: starEach [b] X.env)
    (nb : starEach [b] X.env = (false, eval b X.env) :: starEach [] X.env) :
    PE X (.Call (.Name "tuple" p0) [.Call (.Name "range" p1) [a, b] [] p2] [] pos) (TD G W (fR2 .trange f g)) := by
  refine pe_imp (pe_tupRg hc hg hm (prg_2 hg2 hm2 h1 h2 na nb (by rw [nb]; rfl))) fun σ H Q h => ?_
  refine tx_imp (tx_bind (rel := Rp G) (tx_eq (fR2_eq _ f g) h)) fun v H1 ⟨π, M, ρ, d, he, hm, r, h⟩ => ?_
  refine tx_imp (tx_next (rel := Rp G) he hm h) fun u H2 ⟨π2, M2, e, x, he2, hm2, r2, h⟩ => ?_
  cases r with
  | int i =>
    cases r2 with
    | int j =>
      obtain ⟨hk, h⟩ := post_chk (show post G (chk (rngOk i j) _) π2 H2 Q _ from h)
      exact ⟨i, j, rfl, rfl, rngOk_ok hk, fun q hq => post_tup h hm2 (rngL_ok _ _) hq⟩
    | _ => exact h.elim
  | _ => cases r2 <;> exact h.elim
end
end DL

/-! DL: what is walked, targets, comprehensions -/
namespace DL
open PySem PySem.Spec PyProof.Rows L2
/-- the walk J goes as it does by plain values -/
structure ItrOk (G : Gm) (it : Wk) (J : It) (π0 : List Addr) (H0 : Hp) : Prop where
  go : ∀ i π M H d, Nx G π0 π H0 H → MemOk G π M H → it.at M i = .yld d → J.go i H
  yld : ∀ i π M H d x H', Nx G π0 π H0 H → MemOk G π M H → it.at M i = .yld d → J.yld i H x H' → Nx G π π H H' ∧ MemOk G π M H' ∧ Rp G π H' d x
  stop : ∀ i π M H, Nx G π0 π H0 H → MemOk G π M H → it.at M i = .stop → J.stop i H
section
variable {X : Cx} {G : Gm} {W : WX} {π : List Addr} {M : Mem} {H : Hp} {σ : L2.St} {ρ : Env} {pos : Pos}
/-- items by a list or a tuple at a fixed address -/
theorem its_at {d : D} {π0 : List Addr} {H0 : Hp} {a : Addr} {ds : List D} (r : Rp G π0 H0 d (.ref a)) (x : Nx G π0 π H0 H) (m : MemOk G π M H) (e : items M d = some ds) : ∃ vs, (isTup d = false → SqL G.K H a vs) ∧ (isTup d = true → SqT G.K H a vs) ∧ Rps G π H ds vs := by
  have r1 := r.mono x
  cases r1 with
  | tup h1 h2 => cases e; exact ⟨_, (fun z => by cases z), fun _ => h1, h2⟩
  | @loc n _ h1 =>
    obtain ⟨_, vs, q1, q2⟩ := m.lst (n := n) (ds := ds) e h1
    exact ⟨vs, fun _ => .inl (.inl q1), (fun z => by cases z), q2⟩
  | ro =>
    cases e
    refine ⟨_, fun _ => ?_, (fun z => by cases z), rps_ns _⟩
    rcases m.scr with s | ⟨ob, s⟩ | ⟨s, _⟩
    · exact .inr s
    · exact .inl (.inr ⟨ob, s⟩)
    · exact .inl (.inl s)
  | fn g => cases e
theorem itr_seq {d : D} {a : Addr} (hK : G.K = X.K) (r : Rp G π H d (.ref a)) : (isTup d = false → ItrOk G (.seq d) (Itl X.K a) π H) ∧ (isTup d = true → ItrOk G (.seq d) (Itt X.K a) π H) := by
  rw [← hK]
  have at_ : ∀ {M : Mem} {i : Nat} {y : Tn}, (Wk.seq d).at M i = y → y ≠ .bad → ∃ ds, items M d = some ds ∧ y = match ds[i]? with
      | some x => .yld x
      | none => .stop := fun {M i y} e nb => by
    unfold Wk.at at e
    simp only at e
    cases q : items M d with
    | none => rw [q] at e; exact absurd e.symm nb
    | some ds => rw [q] at e; exact ⟨ds, rfl, e.symm⟩
  refine ⟨fun ht => ⟨fun i π' M' H' y x m e => ?_, fun i π' M' H' y v H2 x m e hy => ?_, fun i π' M' H' x m e => ?_⟩, fun ht => ⟨fun i π' M' H' y x m e => ?_, fun i π' M' H' y v H2 x m e hy => ?_, fun i π' M' H' x m e => ?_⟩⟩
  all_goals
    obtain ⟨ds, h1, h2⟩ := at_ e (by intro z; cases z)
    obtain ⟨vs, q1, q2, q3⟩ := its_at r x m h1
  · cases q : ds[i]? with
    | none => rw [q] at h2; cases h2
    | some z =>
      obtain ⟨v, hv, _⟩ := q3.getD q
      exact ⟨vs, v, q1 ht, hv⟩
  · cases q : ds[i]? with
    | none => rw [q] at h2; cases h2
    | some z =>
      rw [q] at h2
      cases h2
      obtain ⟨w, hw, hr⟩ := q3.getD q
      obtain ⟨rfl, hy⟩ := hy
      have e2 := hy vs (q1 ht)
      rw [hw] at e2
      cases e2
      exact ⟨.refl, m, hr⟩
  · cases q : ds[i]? with
    | none => exact ⟨vs, q1 ht, q3.noneD q⟩
    | some z => rw [q] at h2; cases h2
  · cases q : ds[i]? with
    | none => rw [q] at h2; cases h2
    | some z =>
      obtain ⟨v, hv, _⟩ := q3.getD q
      exact ⟨vs, v, q2 ht, hv⟩
  · cases q : ds[i]? with
    | none => rw [q] at h2; cases h2
    | some z =>
      rw [q] at h2
      cases h2
      obtain ⟨w, hw, hr⟩ := q3.getD q
      obtain ⟨rfl, hy⟩ := hy
      have e2 := hy vs (q2 ht)
      rw [hw] at e2
      cases e2
      exact ⟨.refl, m, hr⟩
  · cases q : ds[i]? with
    | none => exact ⟨vs, q2 ht, q3.noneD q⟩
    | some z => rw [q] at h2; cases h2
theorem itr_rngC {lo c : Int} {n : Nat} : ItrOk G (.rng lo c n) (Itc lo c n) π H := by
  refine ⟨fun i π' M' H' y x m e => ?_, fun i π' M' H' y v H2 x m e hy => ?_, fun i π' M' H' x m e => ?_⟩
  all_goals
    unfold Wk.at at e
    simp only at e
    split at e
  · assumption
  · cases e
  · obtain ⟨rfl, rfl⟩ := hy
    cases e
    exact ⟨.refl, m, .int _⟩
  · cases e
  · cases e
  · exact Nat.le_of_not_lt (by assumption)
theorem itr_rng {lo : Int} {n : Nat} : ItrOk G (.rng lo 1 n) (Itr lo n) π H := by
  refine ⟨fun i π' M' H' y x m e => ?_, fun i π' M' H' y v H2 x m e hy => ?_, fun i π' M' H' x m e => ?_⟩
  all_goals
    unfold Wk.at at e
    simp only at e
    split at e
  · assumption
  · cases e
  · obtain ⟨rfl, rfl⟩ := hy
    cases e
    rw [Int.mul_one]
    exact ⟨.refl, m, .int _⟩
  · cases e
  · cases e
  · exact Nat.le_of_not_lt (by assumption)
theorem itr_enum {d : D} {a : Addr} (hK : G.K = X.K) (r : Rp G π H d (.ref a)) (ht : isTup d = false) : ItrOk G (.enum d) (Ite X.K a) π H := by
  rw [← hK]
  have at_ : ∀ {M : Mem} {i : Nat} {y : Tn}, (Wk.enum d).at M i = y → y ≠ .bad → ∃ ds, items M d = some ds ∧ y = match ds[i]? with
      | some x => .yld (.tup [.int (i : Nat), x])
      | none => .stop := fun {M i y} e nb => by
    unfold Wk.at at e
    simp only at e
    cases q : items M d with
    | none => rw [q] at e; exact absurd e.symm nb
    | some ds => rw [q] at e; exact ⟨ds, rfl, e.symm⟩
  refine ⟨fun i π' M' H' y x m e => ?_, fun i π' M' H' y v H2 x m e hy => ?_, fun i π' M' H' x m e => ?_⟩
  all_goals
    obtain ⟨ds, h1, h2⟩ := at_ e (by intro z; cases z)
    obtain ⟨vs, q1, q2, q3⟩ := its_at r x m h1
  · cases q : ds[i]? with
    | none => rw [q] at h2; cases h2
    | some z =>
      obtain ⟨v, hv, _⟩ := q3.getD q
      exact ⟨vs, v, q1 ht, hv⟩
  · cases q : ds[i]? with
    | none => rw [q] at h2; cases h2
    | some z =>
      rw [q] at h2
      cases h2
      obtain ⟨w, hw, hr⟩ := q3.getD q
      obtain ⟨T, x1, rfl, hT, rfl, hy⟩ := hy
      have e2 := hy vs (q1 ht)
      rw [hw] at e2
      cases e2
      exact ⟨nx_new hT, m.new hT, .tup (.inl (.inl upd_same)) (.cons (.int _) (.cons (hr.mono (nx_new hT)) .nil))⟩
  · cases q : ds[i]? with
    | none => exact ⟨vs, q1 ht, q3.noneD q⟩
    | some z => rw [q] at h2; cases h2
theorem itr_zip {d d2 : D} {a a2 : Addr} (hK : G.K = X.K) (r : Rp G π H d (.ref a)) (r2 : Rp G π H d2 (.ref a2)) : (isTup d = false → isTup d2 = false → ItrOk G (.zip d d2) (Itz X.K a a2) π H) ∧ (isTup d = true → isTup d2 = true → ItrOk G (.zip d d2) (RZ.ItzT X.K a a2) π H) := by
  rw [← hK]
  have at_ : ∀ {M : Mem} {i : Nat} {y : Tn}, (Wk.zip d d2).at M i = y → y ≠ .bad → ∃ ds es, items M d = some ds ∧ items M d2 = some es ∧ y = match ds[i]? with
      | some x => match es[i]? with
        | some z => .yld (.tup [x, z])
        | none => .stop
      | none => .stop := fun {M i y} e nb => by
    unfold Wk.at at e
    simp only at e
    cases q : items M d with
    | none => rw [q] at e; exact absurd e.symm nb
    | some ds =>
      rw [q] at e
      simp only at e
      cases q2 : items M d2 with
      | none => rw [q2] at e; exact absurd e.symm nb
      | some es => rw [q2] at e; exact ⟨ds, es, rfl, rfl, e.symm⟩
  refine ⟨fun ht ht2 => ⟨fun i π' M' H' y x m e => ?_, fun i π' M' H' y v H2 x m e hy => ?_, fun i π' M' H' x m e => ?_⟩, fun ht ht2 => ⟨fun i π' M' H' y x m e => ?_, fun i π' M' H' y v H2 x m e hy => ?_, fun i π' M' H' x m e => ?_⟩⟩
  all_goals
    obtain ⟨ds, es, h1, h2, h3⟩ := at_ e (by intro z; cases z)
    obtain ⟨vs, q1, q2, q3⟩ := its_at r x m h1
    obtain ⟨ws, p1, p2, p3⟩ := its_at r2 x m h2
    cases q : ds[i]? with
    | none =>
      rw [q] at h3
      first
        | (cases h3; done)
        | exact ⟨vs, ws, q1 ht, p1 ht2, .inl (q3.noneD q)⟩
        | exact ⟨vs, ws, q2 ht, p2 ht2, .inl (q3.noneD q)⟩
    | some z =>
      rw [q] at h3
      simp only at h3
      cases p : es[i]? with
      | none =>
        rw [p] at h3
        first
          | (cases h3; done)
          | exact ⟨vs, ws, q1 ht, p1 ht2, .inr (p3.noneD p)⟩
          | exact ⟨vs, ws, q2 ht, p2 ht2, .inr (p3.noneD p)⟩
      | some z2 =>
        rw [p] at h3
        obtain ⟨w, hw, hr⟩ := q3.getD q
        obtain ⟨w2, hw2, hr2⟩ := p3.getD p
        first
          | exact ⟨vs, ws, w, w2, q1 ht, p1 ht2, hw, hw2⟩
          | exact ⟨vs, ws, w, w2, q2 ht, p2 ht2, hw, hw2⟩
          | (cases h3; done)
          | (cases h3
             obtain ⟨T, x1, y1, rfl, hT, rfl, hy1, hy2⟩ := hy
             have e1 := hy1 vs (q1 ht)
             have e2 := hy2 ws (p1 ht2)
             rw [hw] at e1; cases e1
             rw [hw2] at e2; cases e2
             exact ⟨nx_new hT, m.new hT, .tup (.inl (.inl upd_same)) (.cons (hr.mono (nx_new hT)) (.cons (hr2.mono (nx_new hT)) .nil))⟩)
          | (cases h3
             obtain ⟨T, x1, y1, rfl, hT, rfl, hy1, hy2⟩ := hy
             have e1 := hy1 vs (q2 ht)
             have e2 := hy2 ws (p2 ht2)
             rw [hw] at e1; cases e1
             rw [hw2] at e2; cases e2
             exact ⟨nx_new hT, m.new hT, .tup (.inl (.inl upd_same)) (.cons (hr.mono (nx_new hT)) (.cons (hr2.mono (nx_new hT)) .nil))⟩)
/-- the reading of what is walked -/
def fS (s : Src) (f : Env → Mem → R (List D)) : Env → Mem → R Wk := fun ρ M => (f ρ M).bind fun ds M1 => opt (src M1 s ds) M1
def iS (G : Gm) (W : WX) (s : Src) (f : Env → Mem → R (List D)) : TI := fun σ H R => TX G W (fun π H it J => ItrOk G it J π H) (fS s f) σ H R
theorem pst_opt {α β : Type} {rel : List Addr → Hp → α → β → Prop} {o : Option α} {Q : β → Hp → Prop} {E : XK} (h : pst G rel (opt o M) π H Q E) : ∃ d, o = some d ∧ pst G rel (.ok d M) π H Q E := by
  cases o with
  | none => exact h.elim
  | some d => exact ⟨d, rfl, h⟩
theorem fCons1 {f : Env → Mem → R D} (ρ : Env) (M : Mem) : fCons f fNil ρ M = (f ρ M).bind fun d M1 => .ok [d] M1 := by
  unfold fCons fNil
  exact bind_imp _ fun d M1 => rfl
theorem src_seq {ds : List D} {it : Wk} (h : src M .seq ds = some it) : ∃ d, ds = [d] ∧ it = .seq d ∧ isSeq M d = true := by
  cases ds with
  | nil => cases h
  | cons d r =>
    cases r with
    | cons _ _ => cases h
    | nil =>
      have h : (if isSeq M d then some (Wk.seq d) else none) = some it := h
      split at h
      · cases h; rename_i q; exact ⟨_, rfl, rfl, q⟩
      · cases h
theorem src_enum {ds : List D} {it : Wk} (h : src M .enum ds = some it) : ∃ d, ds = [d] ∧ it = .enum d ∧ isSeq M d = true ∧ isTup d = false := by
  cases ds with
  | nil => cases h
  | cons d r =>
    cases r with
    | cons _ _ => cases h
    | nil =>
      have h : (if isSeq M d && !isTup d then some (Wk.enum d) else none) = some it := h
      split at h
      · cases h
        rename_i q
        obtain ⟨q1, q2⟩ := Bool.and_eq_true_iff.mp q
        exact ⟨_, rfl, rfl, q1, by simpa using q2⟩
      · cases h
theorem src_zip {ds : List D} {it : Wk} (h : src M .zip ds = some it) : ∃ d e, ds = [d, e] ∧ it = .zip d e ∧ isSeq M d = true ∧ isSeq M e = true ∧ isTup d = isTup e := by
  cases ds with
  | nil => cases h
  | cons d r =>
    cases r with
    | nil => cases h
    | cons e r =>
      cases r with
      | cons _ _ => cases h
      | nil =>
        have h : (if isSeq M d && (isSeq M e && isTup d == isTup e) then some (Wk.zip d e) else none) = some it := h
        split at h
        · cases h
          rename_i q
          simp only [Bool.and_eq_true, beq_iff_eq] at q
          exact ⟨_, _, rfl, rfl, q.1, q.2.1, q.2.2⟩
        · cases h
theorem seq_ref {d : D} {v : V} (m : MemOk G π M H) (r : Rp G π H d v) (h : isSeq M d = true) : ∃ a vs, v = .ref a ∧ (isTup d = false → SqL G.K H a vs) ∧ (isTup d = true → SqT G.K H a vs) := by
  unfold isSeq at h
  cases e : items M d with
  | none => rw [e] at h; cases h
  | some ds =>
    obtain ⟨a, vs, rfl, _, _⟩ := m.its r e
    obtain ⟨ws, q1, q2, _⟩ := its_at r .refl m e
    exact ⟨a, ws, rfl, q1, q2⟩
/-- a list or a tuple is walked -/
theorem pi_seqD {tg e : Expr} {f : Env → Mem → R D} (hK : G.K = X.K) (h1 : PE X e (TD G W f)) : PI X tg e (iS G W .seq (fCons f fNil)) := by
  refine pi_imp (pi_or (pi_list h1) (pi_tup h1)) fun σ H R h => ?_
  obtain ⟨π, M, ρ, he, hm, h⟩ := h
  unfold fS at h
  rw [fCons1, bind_bind] at h
  have hTX : ∀ Q : VK, pst G (Rp G) (f ρ M) π H Q (fun cv dx H' => W cv dx σ H') → TD G W f σ H Q := fun Q hq => ⟨π, M, ρ, he, hm, hq⟩
  generalize ef : f ρ M = r at h
  cases r with
  | bad => exact h.elim
  | exc ex M' => exact .inl (hTX _ (by rw [ef]; exact h))
  | ok d M' =>
    obtain ⟨it, hs, h⟩ := pst_opt (show pst G _ (opt (src M' .seq [d]) M') π H _ _ from h)
    obtain ⟨d', e1, rfl, hq⟩ := src_seq hs
    cases e1
    cases ht : isTup d with
    | false =>
      refine .inl (hTX _ (by
        rw [ef]
        intro π' v H' x m r
        obtain ⟨a, vs, rfl, q1, _⟩ := seq_ref m r hq
        exact ⟨a, rfl, ⟨vs, hK ▸ q1 ht⟩, h _ _ _ x m ((itr_seq hK r).1 ht)⟩))
    | true =>
      refine .inr (hTX _ (by
        rw [ef]
        intro π' v H' x m r
        obtain ⟨a, vs, rfl, _, q2⟩ := seq_ref m r hq
        exact ⟨a, rfl, ⟨vs, hK ▸ q2 ht⟩, h _ _ _ x m ((itr_seq hK r).2 ht)⟩))
theorem small62_ok {i : Int} (h : small62 i = true) : -(2 ^ 62) ≤ i ∧ i < 2 ^ 62 := by
  unfold small62 at h
  simp only [Bool.and_eq_true, decide_eq_true_eq] at h
  omega
theorem pi_rng1D {tg a : Expr} {p : Pos} {f : Env → Mem → R D} (hg : Gl X "range") (hm : X.mg "range" = none) (h1 : PA X [a] (TAs G W (fCons f fNil))) (hs : starEach [a] X.env = [(false, eval a X.env)]) :
    PI X tg (.Call (.Name "range" p) [a] [] pos) (iS G W .rng (fCons f fNil)) := by
  refine pi_imp (pi_range1 hg hm h1 hs) fun σ H R h => ?_
  refine tx_imp (tx_bindE (rel := Rps G) h) fun vs H1 ⟨π, M, ρ, ds, ⟨ρ0, M0, e⟩, he, hm, r, h⟩ => ?_
  rw [fCons1] at e
  cases ef : f ρ0 M0 with
  | bad => rw [ef] at e; cases e
  | exc _ _ => rw [ef] at e; cases e
  | ok d M1 =>
    rw [ef] at e
    cases e
    obtain ⟨it, hs, h⟩ := pst_opt h
    cases r with
    | cons r1 r2 =>
      cases r2
      cases r1 with
      | int j =>
        have hs : (if small62 j then some (Wk.rng 0 1 j.toNat) else none) = some it := hs
        split at hs
        · rename_i c
          cases hs
          obtain ⟨c1, c2⟩ := small62_ok c
          exact ⟨j, rfl, c1, c2, h _ _ _ .refl hm itr_rng⟩
        · cases hs
      | _ => cases hs
theorem two_of {f g : Env → Mem → R D} {ρ0 : Env} {M0 M : Mem} {ds : List D} (e : fCons f (fCons g fNil) ρ0 M0 = .ok ds M) : ∃ d e', ds = [d, e'] := by
  unfold fCons fNil at e
  cases e1 : f ρ0 M0 with
  | bad => rw [e1] at e; cases e
  | exc _ _ => rw [e1] at e; cases e
  | ok d M1 =>
    rw [e1] at e
    simp only [R.bind] at e
    cases e2 : g ρ0 M1 with
    | bad => rw [e2] at e; cases e
    | exc _ _ => rw [e2] at e; cases e
    | ok d2 M2 => rw [e2] at e; cases e; exact ⟨_, _, rfl⟩
theorem three_of {f g k : Env → Mem → R D} {ρ0 : Env} {M0 M : Mem} {ds : List D} (e : fCons f (fCons g (fCons k fNil)) ρ0 M0 = .ok ds M) : ∃ d e' e2, ds = [d, e', e2] := by
  unfold fCons fNil at e
  cases e1 : f ρ0 M0 with
  | bad => rw [e1] at e; cases e
  | exc _ _ => rw [e1] at e; cases e
  | ok d M1 =>
    rw [e1] at e
    simp only [R.bind] at e
    cases e2 : g ρ0 M1 with
    | bad => rw [e2] at e; cases e
    | exc _ _ => rw [e2] at e; cases e
    | ok d2 M2 =>
      rw [e2] at e
      simp only at e
      cases e3 : k ρ0 M2 with
      | bad => rw [e3] at e; cases e
      | exc _ _ => rw [e3] at e; cases e
      | ok d3 M3 => rw [e3] at e; cases e; exact ⟨_, _, _, rfl⟩
theorem pi_rng2D {tg a b : Expr} {p : Pos} {f g : Env → Mem → R D} (hg : Gl X "range") (hm : X.mg "range" = none) (h1 : PA X [a, b] (TAs G W (fCons f (fCons g fNil)))) (hs : starEach [a, b] X.env = [(false, eval a X.env), (false, eval b X.env)]) (hs2 : starEach [b] X.env = [(false, eval b X.env)]) :
    PI X tg (.Call (.Name "range" p) [a, b] [] pos) (iS G W .rng (fCons f (fCons g fNil))) := by
  refine pi_imp (pi_range2 hg hm h1 hs hs2) fun σ H R h => ?_
  refine tx_imp (tx_bindE (rel := Rps G) h) fun vs H1 ⟨π, M, ρ, ds, ⟨ρ0, M0, e⟩, he, hm, r, h⟩ => ?_
  obtain ⟨d, d2, rfl⟩ := two_of e
  obtain ⟨it, hs, h⟩ := pst_opt h
  cases r with
  | cons r1 r2 =>
    cases r2 with
    | cons r2 r3 =>
      cases r3
      cases r1 with
      | int i =>
        cases r2 with
        | int j =>
          have hs : (if small62 i && small62 j then some (Wk.rng i 1 (j - i).toNat) else none) = some it := hs
          split at hs
          · rename_i c
            cases hs
            obtain ⟨c1, c2⟩ := Bool.and_eq_true_iff.mp c
            exact ⟨i, j, rfl, ⟨(small62_ok c1).1, (small62_ok c1).2, (small62_ok c2).1, (small62_ok c2).2⟩, h _ _ _ .refl hm itr_rng⟩
          · cases hs
        | _ => cases hs
      | _ => cases r2 <;> cases hs
theorem pi_rng3D {tg a b c : Expr} {p : Pos} {f g k : Env → Mem → R D} (hg : Gl X "range") (hm : X.mg "range" = none) (h1 : PA X [a, b, c] (TAs G W (fCons f (fCons g (fCons k fNil))))) (hs : starEach [a, b, c] X.env = (false, eval a X.env) :: starEach [b, c] X.env) (hpl : (backTo pos (starEach [b, c] X.env)).any (·.1) = false) :
    PI X tg (.Call (.Name "range" p) [a, b, c] [] pos) (iS G W .rng (fCons f (fCons g (fCons k fNil)))) := by
  refine pi_imp (pi_range3 hg hm h1 hs hpl) fun σ H R h => ?_
  refine tx_imp (tx_bindE (rel := Rps G) h) fun vs H1 ⟨π, M, ρ, ds, ⟨ρ0, M0, e⟩, he, hm, r, h⟩ => ?_
  obtain ⟨d, d2, d3, rfl⟩ := three_of e
  obtain ⟨it, hs, h⟩ := pst_opt h
  cases r with
  | cons r1 r2 =>
    cases r2 with
    | cons r2 r3 =>
      cases r3 with
      | cons r3 r4 =>
        cases r4
        cases r1 with
        | int i =>
          cases r2 with
          | int j =>
            cases r3 with
            | int c =>
              have hs : rng3 i j c = some it := hs
              unfold rng3 at hs
              split at hs
              · rename_i q
                cases hs
                simp only [Bool.and_eq_true, decide_eq_true_eq] at q
                exact ⟨i, j, c, _, rfl, ⟨q.1.1, q.1.2, q.2.1, by omega⟩, h _ _ _ .refl hm itr_rngC⟩
              · cases hs
            | _ => cases hs
          | _ => cases r3 <;> cases hs
        | _ => cases r2 <;> cases r3 <;> cases hs
theorem pi_enumD {a : Expr} {p tpos : Pos} {elts : List Expr} {kk : Nat} {f : Env → Mem → R D} (hK : G.K = X.K) (hg : Gl X "enumerate") (hm : X.mg "enumerate" = none) (h1 : PA X [a] (TAs G W (fCons f fNil))) (hs : starEach [a] X.env = [(false, eval a X.env)]) :
    PI X (.Tuple elts kk tpos) (.Call (.Name "enumerate" p) [a] [] pos) (iS G W .enum (fCons f fNil)) := by
  refine pi_imp (pi_enum hg hm h1 hs) fun σ H R h => ?_
  refine tx_imp (tx_bindE (rel := Rps G) h) fun vs H1 ⟨π, M, ρ, ds, ⟨ρ0, M0, e⟩, he, hm, r, h⟩ => ?_
  obtain ⟨it, hs, h⟩ := pst_opt h
  obtain ⟨d, rfl, rfl, hq, ht⟩ := src_enum hs
  cases r with
  | cons r1 r2 =>
    cases r2
    obtain ⟨a, ws, rfl, q1, _⟩ := seq_ref hm r1 hq
    exact ⟨a, ws, rfl, hK ▸ q1 ht, h _ _ _ .refl hm (itr_enum hK r1 ht)⟩
theorem pi_zipD {a b : Expr} {p tpos : Pos} {elts : List Expr} {kk : Nat} {f g : Env → Mem → R D} (hK : G.K = X.K) (hg : Gl X "zip") (hm : X.mg "zip" = none) (h1 : PA X [a, b] (TAs G W (fCons f (fCons g fNil)))) (hs : starEach [a, b] X.env = (false, eval a X.env) :: starEach [b] X.env) (hpl : (backTo pos (starEach [b] X.env)).any (·.1) = false) :
    PI X (.Tuple elts kk tpos) (.Call (.Name "zip" p) [a, b] [] pos) (iS G W .zip (fCons f (fCons g fNil))) := by
  refine pi_imp (RZ.pi_zipA hg hm h1 hs hpl) fun σ H R h => ?_
  refine tx_imp (tx_bindE (rel := Rps G) h) fun vs H1 ⟨π, M, ρ, ds, ⟨ρ0, M0, e⟩, he, hm, r, h⟩ => ?_
  obtain ⟨it, hs, h⟩ := pst_opt h
  obtain ⟨d, d2, rfl, rfl, hq, hq2, ht⟩ := src_zip hs
  cases r with
  | cons r1 r2 =>
    cases r2 with
    | cons r2 r3 =>
      cases r3
      obtain ⟨a, ws, rfl, q1, q2⟩ := seq_ref hm r1 hq
      obtain ⟨a2, ws2, rfl, p1, p2⟩ := seq_ref hm r2 hq2
      refine ⟨a, a2, ws, ws2, rfl, ?_⟩
      cases ht1 : isTup d with
      | false => exact .inl ⟨hK ▸ q1 ht1, hK ▸ p1 (ht ▸ ht1), h _ _ _ .refl hm ((itr_zip hK r1 r2).1 ht1 (ht ▸ ht1))⟩
      | true => exact .inr ⟨hK ▸ q2 ht1, hK ▸ p2 (ht ▸ ht1), h _ _ _ .refl hm ((itr_zip hK r1 r2).2 ht1 (ht ▸ ht1))⟩
/-! ### targets -/
/-- but for the places ts nothing is changed -/
def Only (ts : List Nat) (σ σ' : L2.St) : Prop := σ'.length = σ.length ∧ ∀ i, i ∉ ts → σ'[i]? = σ[i]?
/-- a statement's end -/
def pF (G : Gm) (W : WX) (r : F) (π : List Addr) (H : Hp) (D : Ends) : Prop := match r with
  | .nx ρ' M' => ∀ π' σ' H', Nx G π π' H H' → EnvOk G π' H' ρ' σ' → MemOk G π' M' H' → D.nx σ' H'
  | .rt d ρ' M' => ∀ π' (v : V) H', Nx G π π' H H' → MemOk G π' M' H' → Rp G π' H' d v → D.rt v H'
  | .bk ρ' M' => ∀ π' σ' H', Nx G π π' H H' → EnvOk G π' H' ρ' σ' → MemOk G π' M' H' → D.bk σ' H'
  | .ct ρ' M' => ∀ π' σ' H', Nx G π π' H H' → EnvOk G π' H' ρ' σ' → MemOk G π' M' H' → D.ct σ' H'
  | .ex e ρ' M' => ∀ π' σ' H' cv dx, Nx G π π' H H' → EnvOk G π' H' ρ' σ' → MemOk G π' M' H' → ExR G e cv dx H' → W cv dx σ' H'
  | .bad => False
/-- a target's -/
def pG (G : Gm) (W : WX) (ts : List Nat) (σ : L2.St) (r : F) (π : List Addr) (H : Hp) (Q : L2.St → Hp → Prop) : Prop := match r with
  | .nx ρ' M' => ∀ π' σ' H', Nx G π π' H H' → EnvOk G π' H' ρ' σ' → MemOk G π' M' H' → Only ts σ σ' → Q σ' H'
  | .ex e ρ' M' => ∀ π' σ' H' cv dx, Nx G π π' H H' → EnvOk G π' H' ρ' σ' → MemOk G π' M' H' → ExR G e cv dx H' → W cv dx σ' H'
  | _ => False
def TGt (G : Gm) (W : WX) (ts : List Nat) (f : D → Env → Mem → F) : TG := fun v σ H Q => ∃ π M ρ d, EnvOk G π H ρ σ ∧ MemOk G π M H ∧ Rp G π H d v ∧ pG G W ts σ (f d ρ M) π H Q
def TGts (G : Gm) (W : WX) (ts : List Nat) (f : List D → Env → Mem → F) : TGs := fun vs σ H Q => ∃ π M ρ ds, EnvOk G π H ρ σ ∧ MemOk G π M H ∧ Rps G π H ds vs ∧ pG G W ts σ (f ds ρ M) π H Q
theorem Only.refl {ts : List Nat} {σ : L2.St} : Only ts σ σ := ⟨rfl, fun _ _ => rfl⟩
theorem Only.trans {ts us : List Nat} {σ σ1 σ2 : L2.St} (a : Only ts σ σ1) (b : Only us σ1 σ2) : Only (ts ++ us) σ σ2 := ⟨b.1.trans a.1, fun i h => by
  rw [List.mem_append, not_or] at h
  rw [b.2 i h.2, a.2 i h.1]⟩
theorem Only.set {i : Nat} {v : Option V} {σ : L2.St} : Only [i] σ (σ.set i v) := ⟨by simp, fun j h => by rw [List.getElem?_set_ne (by intro e; exact h (by simp [e]))]⟩
theorem pG_base {ts : List Nat} {r : F} {π1 : List Addr} {H1 : Hp} {Q : L2.St → Hp → Prop} (h : pG G W ts σ r π H Q) (x : Nx G π π1 H H1) : pG G W ts σ r π1 H1 Q := by
  cases r with
  | nx ρ' M' => exact fun π' σ' H' n => h π' σ' H' (x.trans n)
  | ex e ρ' M' => exact fun π' σ' H' cv dx n => h π' σ' H' cv dx (x.trans n)
  | _ => exact h.elim
theorem pg_nameD {i : Nat} {x : Str} (hN : X.N.Nodup) (hi : X.N[i]? = some x) (hx : Loc X.env.scope x) (hf : X.fn x = true ∨ X.env.scope.names.lookup x = some .local) : PG X (.Name x pos) (TGt G W [i] fun d ρ M => .nx (ρ.set i (some d)) M) :=
  pg_imp (pg_name hN hi hx hf) fun v σ H Q ⟨π, M, ρ, d, he, hm, r, h⟩ => h _ _ _ .refl (he.set r) hm Only.set
theorem pgs_nilD : PGs X [] (TGts G W [] fun ds ρ M => match ds with
    | [] => .nx ρ M
    | _ => .bad) := by
  refine ⟨fun pins s σ H vs us Q I r h => ?_⟩
  refine pgs_nil.run pins s σ H vs us Q I r ?_
  obtain ⟨π, M, ρ, ds, he, hm, rs, h⟩ := h
  cases rs with
  | nil => exact ⟨rfl, h _ _ _ .refl he hm Only.refl⟩
  | cons _ _ => exact h.elim
theorem pgs_consD {e : Expr} {es : List Expr} {ts us : List Nat} {f : D → Env → Mem → F} {g : List D → Env → Mem → F} (h1 : PG X e (TGt G W ts f)) (h2 : PGs X es (TGts G W us g)) (hs : (assignEach (e :: es) X.env).map (·.2) = assign e X.env :: (assignEach es X.env).map (·.2)) :
    PGs X (e :: es) (TGts G W (ts ++ us) fun ds ρ M => match ds with
      | d :: ds => (f d ρ M).seq fun ρ1 M1 => g ds ρ1 M1
      | [] => .bad) := by
  refine ⟨fun pins s σ H vs vus Q I r h => ?_⟩
  refine (pgs_cons h1 h2 hs).run pins s σ H vs vus Q I r ?_
  obtain ⟨π, M, ρ, ds, he, hm, rs, h⟩ := h
  cases rs with
  | nil => exact h.elim
  | cons r1 rs =>
    rename_i d v ds vs
    refine ⟨v, vs, rfl, π, M, ρ, d, he, hm, r1, ?_⟩
    have h : pG G W (ts ++ us) σ ((f d ρ M).seq fun ρ1 M1 => g ds ρ1 M1) π H Q := h
    generalize f d ρ M = w at h
    cases w with
    | nx ρ' M' => exact fun π' σ' H' x he' hm' ho => ⟨π', M', ρ', ds, he', hm', rs.mono x, by
        have h := pG_base h x
        cases q : g ds ρ' M' with
        | nx ρ2 M2 =>
          have h : pG G W (ts ++ us) σ (g ds ρ' M') π' H' Q := h
          rw [q] at h
          exact fun π2 σ2 H2 x2 e2 m2 o2 => h π2 σ2 H2 x2 e2 m2 (ho.trans o2)
        | ex e ρ2 M2 =>
          have h : pG G W (ts ++ us) σ (g ds ρ' M') π' H' Q := h
          rw [q] at h
          exact h
        | _ =>
          have h : pG G W (ts ++ us) σ (g ds ρ' M') π' H' Q := h
          rw [q] at h
          exact h.elim⟩
    | ex e ρ' M' => exact h
    | _ => exact h.elim
theorem pg_tupD {es : List Expr} {k : Nat} {ts : List Nat} {g : List D → Env → Mem → F} (hK : G.K = X.K) (hc : X.calm = true) (h : PGs X es (TGts G W ts g)) (hst : (assignEach es X.env).findIdx? (·.1) = none) (hl : ∀ ds ρ M, g ds ρ M ≠ .bad → (assignEach es X.env).length = ds.length) :
    PG X (.Tuple es k pos) (TGt G W ts fun d ρ M => match items M d with
      | some ds => g ds ρ M
      | none => .bad) := by
  refine pg_imp (pg_or (pg_lst hc h rfl hst) (pg_tup hc h rfl hst)) fun v σ H Q ⟨π, M, ρ, d, he, hm, r, h⟩ => ?_
  have h : pG G W ts σ (match items M d with
    | some ds => g ds ρ M
    | none => .bad) π H Q := h
  cases e : items M d with
  | none => rw [e] at h; exact h.elim
  | some ds =>
    rw [e] at h
    have h : pG G W ts σ (g ds ρ M) π H Q := h
    have hb : g ds ρ M ≠ .bad := fun z => by rw [z] at h; exact h
    obtain ⟨a, vs, rfl, hq, hr⟩ := hm.its r e
    have hn : vs.length = (assignEach es X.env).length := by rw [hl ds ρ M hb, hr.length]
    rcases hq with hq | hq
    · exact .inl ⟨a, vs, rfl, hK ▸ hq, hn, π, M, ρ, ds, he, hm, hr, h⟩
    · exact .inr ⟨a, vs, rfl, hK ▸ hq, hn, π, M, ρ, ds, he, hm, hr, h⟩
theorem setI_ok : PSet X (fun o i v H Q => ∃ π M d e w M', MemOk G π M H ∧ Rp G π H d o ∧ Rp G π H e i ∧ Rp G π H w v ∧ setItem M d e w = some M' ∧ ∀ H', Nx G π π H H' → MemOk G π M' H' → Q H') := by
  intro pins s σ H o i v ov iv u Q I ro ri rv h
  obtain ⟨π, M, d, e, w, M', m, rd, re, rw', hs, h⟩ := h
  unfold setItem at hs
  cases rd with
  | @loc n a ha =>
    simp only at hs
    cases re with
    | int k =>
      simp only at hs
      cases el : lstOf M n with
      | none => rw [el] at hs; cases hs
      | some ds =>
        rw [el] at hs
        simp only at hs
        cases ej : ixN ds.length k with
        | none => rw [ej] at hs; cases hs
        | some j =>
          rw [ej] at hs
          cases hs
          obtain ⟨hn, ws, hw, hr⟩ := m.lst el ha
          refine set_list pins s σ H _ _ v ov iv u Q I ro ri rv ⟨a, ws, k, j, rfl, rfl, hw, ?_, h _ (nx_lst hw) (m.write hn ha hw (hr.set rw' j))⟩
          rw [← ixN_eq, ← hr.length]; exact ej
    | _ => cases hs
  | _ => cases hs
theorem pg_subD {o i : Expr} {f g : Env → Mem → R D} (h1 : PE X o (TD G W f)) (h2 : PE X i (TD G W g)) (ha : ∀ v, assign (.Subscript o i pos) X.env v = (do
      let ov ← holding [v] (eval o X.env)
      let iv ← holding [v, ov] (eval i X.env)
      standAt pos
      holding [v, ov, iv] (PySem.setItem ov iv v)
      release [v, ov, iv] [])) :
    PG X (.Subscript o i pos) (TGt G W [] fun d ρ M => (f ρ M).toF ρ fun a M1 => (g ρ M1).toF ρ fun b M2 => match setItem M2 a b d with
      | some M3 => .nx ρ M3
      | none => .bad) := by
  refine pg_imp (pg_sub h1 h2 (setI_ok (G := G)) ha) fun v σ H Q ⟨π, M, ρ, d, he, hm, r, h⟩ => ?_
  refine ⟨π, M, ρ, he, hm, ?_⟩
  have h : pG G W [] σ ((f ρ M).toF ρ fun a M1 => (g ρ M1).toF ρ fun b M2 => match setItem M2 a b d with
      | some M3 => .nx ρ M3
      | none => .bad) π H Q := h
  generalize f ρ M = w at h
  cases w with
  | bad => exact h.elim
  | exc e M' => exact fun π' H' cv dx x m' er => h π' σ H' cv dx x (he.mono x) m' er
  | ok a M' =>
    intro π' av H' x m' ra
    refine ⟨π', M', ρ, he.mono x, m', ?_⟩
    have h : pG G W [] σ ((g ρ M').toF ρ fun b M2 => match setItem M2 a b d with
      | some M3 => .nx ρ M3
      | none => .bad) π H Q := h
    generalize g ρ M' = w2 at h
    cases w2 with
    | bad => exact h.elim
    | exc e M2 => exact fun π2 H2 cv dx x2 m2 er => h π2 σ H2 cv dx (x.trans x2) (he.mono (x.trans x2)) m2 er
    | ok b M2 =>
      intro π2 bv H2 x2 m2 rb
      have h : pG G W [] σ (match setItem M2 a b d with
        | some M3 => .nx ρ M3
        | none => .bad) π H Q := h
      cases es : setItem M2 a b d with
      | none => rw [es] at h; exact h.elim
      | some M3 =>
        rw [es] at h
        exact ⟨π2, M2, a, b, d, M3, m2, ra.mono x2, rb, r.mono (x.trans x2), es, fun H3 x3 m3 => h _ _ _ ((x.trans x2).trans x3) (he.mono ((x.trans x2).trans x3)) m3 Only.refl⟩
/-! ### comprehensions -/
abbrev W0 : WX := fun _ _ _ _ => False
theorem wipe_at {σ : L2.St} {i : Nat} : ∀ {vs : List Nat}, i ∈ vs → (L2.wipe σ vs)[i]? = if i < σ.length then some none else none
  | v :: vs, h => by
    show ((L2.wipe σ vs).set v none)[i]? = _
    by_cases e : v = i
    · subst e
      by_cases hl : v < σ.length
      · rw [List.getElem?_set_self (by rw [wipe_length]; exact hl), if_pos hl]
      · rw [List.getElem?_eq_none (by rw [List.length_set, wipe_length]; omega), if_neg hl]
    · rw [List.getElem?_set_ne e]
      exact wipe_at ((List.mem_cons.mp h).resolve_left fun z => e z.symm)
theorem wipe_only {ts vs : List Nat} {σ σ' : L2.St} (h : Only ts (L2.wipe σ vs) σ') (hs : ∀ i ∈ ts, i ∈ vs) : L2.wipe σ' vs = L2.wipe σ vs := by
  apply List.ext_getElem?
  intro i
  have hl : σ'.length = σ.length := by rw [h.1, wipe_length]
  by_cases hi : i ∈ vs
  · rw [wipe_at hi, wipe_at hi, hl]
  · rw [wipe_out hi, h.2 i (fun z => hi (hs i z))]
def fStep (own : List Nat) (tg : D → Env → Mem → F) (tt : Env → Mem → R Bool) (te : Env → Mem → R D) (ρ : Env) : D → Mem → R (Option D) := fun d M2 => match tg d (DL.wipe ρ own) M2 with
  | .nx ρ2 M3 => (tt ρ2 M3).bind fun b M4 => match b with
    | true => (te ρ2 M4).bind fun y M5 => .ok (some y) M5
    | false => .ok none M4
  | _ => .bad
def fComp (own : List Nat) (w : Env → Mem → R Wk) (tg : D → Env → Mem → F) (tt : Env → Mem → R Bool) (te : Env → Mem → R D) : Env → Mem → R D := fun ρ M => (w ρ M).bind fun it M1 => cloop it M1.length (fStep own tg tt te ρ) (it.most M1 + 1) 0 (M1 ++ [.lst []])
theorem lcD {own : List Nat} {w : Env → Mem → R Wk} {tg : D → Env → Mem → F} {tt : Env → Mem → R Bool} {te : Env → Mem → R D} {ts : List Nat} {Q : VK} (hs : ∀ i ∈ ts, i ∈ own)
    (h : TD G W (fComp own w tg tt te) σ H Q) : tLc (fun σ H R => TX G W (fun π H it J => ItrOk G it J π H) w σ H R) (TGt G W0 ts tg) (TB G W0 tt) (TD G W0 te) own σ H Q := by
  refine tx_imp (tx_bind (rel := fun π H it J => ItrOk G it J π H) h) fun J H1 ⟨π1, M1, ρ, it, he, hm, hit, h⟩ => ?_
  intro Dd hD
  have hrep : MemOk G (π1 ++ [Dd]) (M1 ++ [.lst []]) (upd H1 Dd (.lst [])) := hm.alloc hD .nil
  have nx1 : Nx G π1 (π1 ++ [Dd]) H1 (upd H1 Dd (.lst [])) := (nx_new hD).trans nx_add
  have hat : (π1 ++ [Dd])[M1.length]? = some Dd := by rw [List.getElem?_append_right (by rw [hm.len]; exact Nat.le_refl _)]; simp [hm.len]
  refine ⟨fun i m H => ∃ π M, Nx G π1 π H1 H ∧ MemOk G π M H ∧ π[M1.length]? = some Dd ∧ pst G (Rp G) (cloop it M1.length (fStep own tg tt te ρ) m i M) π H Q (fun cv dx H' => W cv dx σ H'), ⟨_, π1 ++ [Dd], _, nx1, hrep, hat, pst_base h nx1⟩, fun i m H2 hW => ?_⟩
  obtain ⟨π, M, x, mm, hp, h⟩ := hW
  cases m with
  | zero => exact h.elim
  | succ f =>
    unfold cloop at h
    cases ea : it.at M i with
    | bad => rw [ea] at h; exact h.elim
    | stop =>
      rw [ea] at h
      exact .inl ⟨hit.stop i π M H2 x mm ea, h _ _ _ .refl mm (.loc hp)⟩
    | yld d =>
      rw [ea] at h
      refine .inr ⟨hit.go i π M H2 d x mm ea, fun H' => ∃ π' M', Nx G π1 π' H1 H' ∧ MemOk G π' M' H' ∧ π'[M1.length]? = some Dd ∧ pst G (Rp G) (cloop it M1.length (fStep own tg tt te ρ) f (i + 1) M') π' H' Q (fun cv dx H' => W cv dx σ H'), fun H' hN => ⟨f, Nat.lt_succ_self _, hN⟩, fun v H3 hy => ?_⟩
      obtain ⟨x3, m3, r3⟩ := hit.yld i π M H2 d v H3 x mm ea hy
      refine ⟨π, M, DL.wipe ρ own, d, ((he.mono x).mono x3).wipe own, m3, r3, ?_⟩
      have h := pst_base h x3
      have h : pst G (Rp G) (match fStep own tg tt te ρ d M with
        | .ok none M' => cloop it M1.length (fStep own tg tt te ρ) f (i + 1) M'
        | .ok (some y) M' => match lstOf M' M1.length with
          | some ds => match decide (ds.length < line) with
            | true => cloop it M1.length (fStep own tg tt te ρ) f (i + 1) (M'.set M1.length (.lst (ds ++ [y])))
            | false => .bad
          | none => .bad
        | _ => .bad) π H3 Q (fun cv dx H' => W cv dx σ H') := h
      unfold fStep at h
      generalize et : tg d (DL.wipe ρ own) M = rt at h ⊢
      cases rt with
      | nx ρ2 M3 =>
        intro π4 σ4 H4 x4 e4 m4 o4
        refine ⟨wipe_only o4 hs, π4, M3, ρ2, e4, m4, ?_⟩
        have h := pst_base h x4
        simp only at h
        generalize tt ρ2 M3 = rb at h
        cases rb with
        | bad => exact h.elim
        | exc _ _ => exact h.elim
        | ok b M5 =>
          intro π5 b' H5 x5 m5 eb
          subst eb
          have h := pst_base h x5
          cases b with
          | false =>
            rw [if_neg (by decide)]
            have xx : Nx G π1 π5 H1 H5 := x.trans (x3.trans (x4.trans x5))
            exact ⟨π5, M5, xx, m5, (x3.trans (x4.trans x5)).at hp, h⟩
          | true =>
            rw [if_pos rfl]
            refine ⟨π5, M5, ρ2, e4.mono x5, m5, ?_⟩
            simp only [R.bind] at h
            generalize te ρ2 M5 = re at h
            cases re with
            | bad => exact h.elim
            | exc _ _ => exact h.elim
            | ok y M6 =>
              intro π6 yv H6 x6 m6 ry
              have h := pst_base h x6
              simp only at h
              have hp6 : π6[M1.length]? = some Dd := (x3.trans (x4.trans (x5.trans x6))).at hp
              cases el : lstOf M6 M1.length with
              | none => rw [el] at h; exact h.elim
              | some ds =>
                rw [el] at h
                simp only at h
                cases ed : decide (ds.length < line) with
                | false => rw [ed] at h; exact h.elim
                | true =>
                  rw [ed] at h
                  obtain ⟨hn, acc, ha, hr⟩ := m6.lst el hp6
                  have hc := of_decide_eq_true ed
                  rw [line_eq, hr.length] at hc
                  refine ⟨acc, ha, hc, π6, _, ?_, m6.write hn hp6 ha (hr.append (.cons ry .nil)), hp6, pst_base h (nx_lst ha)⟩
                  exact x.trans (x3.trans (x4.trans (x5.trans (x6.trans (nx_lst ha)))))
      | _ => exact h.elim
end
end DL

/-! DL: statements -/
namespace DL
open PySem PySem.Spec PyProof.Rows L2
def TSt (G : Gm) (W : WX) (f : Env → Mem → F) : TS := fun D σ H => ∃ π M ρ, EnvOk G π H ρ σ ∧ MemOk G π M H ∧ pF G W (f ρ M) π H D
section
variable {X : Cx} {G : Gm} {W : WX} {π : List Addr} {M : Mem} {H : Hp} {σ : L2.St} {ρ : Env} {pos : Pos}
theorem pF_base {r : F} {π1 : List Addr} {H1 : Hp} {D : Ends} (h : pF G W r π H D) (x : Nx G π π1 H H1) : pF G W r π1 H1 D := by
  cases r with
  | nx ρ' M' => exact fun π' σ' H' n => h π' σ' H' (x.trans n)
  | rt d ρ' M' => exact fun π' v H' n => h π' v H' (x.trans n)
  | bk ρ' M' => exact fun π' σ' H' n => h π' σ' H' (x.trans n)
  | ct ρ' M' => exact fun π' σ' H' n => h π' σ' H' (x.trans n)
  | ex e ρ' M' => exact fun π' σ' H' cv dx n => h π' σ' H' cv dx (x.trans n)
  | bad => exact h
/-- a value first -/
theorem ts_toF {α β : Type} {rel : List Addr → Hp → α → β → Prop} {f : Env → Mem → R α} {g : Env → α → Mem → F} {D : Ends} (h : TSt G W (fun ρ M => (f ρ M).toF ρ (g ρ)) D σ H) :
    TX G W rel f σ H (fun v H1 => ∃ π M ρ d, EnvOk G π H1 ρ σ ∧ MemOk G π M H1 ∧ rel π H1 d v ∧ pF G W (g ρ d M) π H1 D) := by
  obtain ⟨π, M, ρ, he, hm, h⟩ := h
  refine ⟨π, M, ρ, he, hm, ?_⟩
  have h : pF G W ((f ρ M).toF ρ (g ρ)) π H D := h
  generalize f ρ M = r at h ⊢
  cases r with
  | ok d M' => exact fun π' v H' x m r => ⟨π', M', ρ, d, he.mono x, m, r, pF_base h x⟩
  | exc e M' => exact fun π' H' cv dx x m er => h π' σ H' cv dx x (he.mono x) m er
  | bad => exact h
/-- a statement first -/
theorem pF_seq {r : F} {f : Env → Mem → F} {D : Ends} (h : pF G W (r.seq f) π H D) : pF G W r π H { D with nx := fun σ1 H1 => ∃ π1 M1 ρ1, EnvOk G π1 H1 ρ1 σ1 ∧ MemOk G π1 M1 H1 ∧ Nx G π π1 H H1 ∧ pF G W (f ρ1 M1) π1 H1 D } := by
  cases r with
  | nx ρ' M' => exact fun π' σ' H' x e m => ⟨π', M', ρ', e, m, x, pF_base h x⟩
  | _ => exact h
theorem pssd_nil : PSs X [] (TSt G W fun ρ M => .nx ρ M) := pss_imp pss_nil fun D σ H ⟨π, M, ρ, he, hm, h⟩ => h _ _ _ .refl he hm
theorem pssd_cons {st : Stmt} {rest : List Stmt} {f g : Env → Mem → F} (h1 : PS X st (TSt G W f)) (h2 : PSs X rest (TSt G W g)) : PSs X (st :: rest) (TSt G W fun ρ M => (f ρ M).seq g) := by
  refine pss_imp (pss_cons h1 h2) fun D σ H ⟨π, M, ρ, he, hm, h⟩ => ?_
  refine ⟨π, M, ρ, he, hm, ?_⟩
  have h := pF_seq h
  generalize f ρ M = r at h ⊢
  cases r with
  | nx ρ' M' => exact fun π' σ' H' x e m => let ⟨π1, M1, ρ1, e1, m1, _, h1⟩ := h π' σ' H' x e m; ⟨π1, M1, ρ1, e1, m1, h1⟩
  | _ => exact h
theorem psd_pass : PS X (.Pass pos) (TSt G W fun ρ M => .nx ρ M) := ps_imp ps_pass fun D σ H ⟨π, M, ρ, he, hm, h⟩ => h _ _ _ .refl he hm
theorem psd_brk : PS X (.Break pos) (TSt G W fun ρ M => .bk ρ M) := ps_imp ps_break fun D σ H ⟨π, M, ρ, he, hm, h⟩ => h _ _ _ .refl he hm
theorem psd_cont : PS X (.Continue pos) (TSt G W fun ρ M => .ct ρ M) := ps_imp ps_continue fun D σ H ⟨π, M, ρ, he, hm, h⟩ => h _ _ _ .refl he hm
theorem psd_retn : PS X (.Return none pos) (TSt G W fun ρ M => .rt .non ρ M) := ps_imp ps_retN fun D σ H ⟨π, M, ρ, he, hm, h⟩ => h _ _ _ .refl hm .non
theorem psd_expr {e : Expr} {f : Env → Mem → R D} (h : PE X e (TD G W f)) (hs : swapsWith e none pos.line X.env = pure false) : PS X (.Expr e pos) (TSt G W fun ρ M => (f ρ M).toF ρ fun _ M1 => .nx ρ M1) := by
  refine ps_imp (ps_expr h hs) fun D σ H h => ?_
  refine tx_imp (ts_toF (rel := Rp G) h) fun v H1 ⟨π, M, ρ, d, he, hm, r, h⟩ => h _ _ _ .refl he hm
theorem psd_ret {e : Expr} {f : Env → Mem → R D} (h : PE X e (TD G W f)) : PS X (.Return (some e) pos) (TSt G W fun ρ M => (f ρ M).toF ρ fun d M1 => .rt d ρ M1) := by
  refine ps_imp (ps_ret h) fun D σ H h => ?_
  refine tx_imp (ts_toF (rel := Rp G) h) fun v H1 ⟨π, M, ρ, d, he, hm, r, h⟩ => h _ _ _ .refl hm r
theorem psd_if {c : Expr} {a b : List Stmt} {k : Env → Mem → R Bool} {f g : Env → Mem → F} (h0 : PT X c (TB G W k)) (h1 : PSs X a (TSt G W f)) (h2 : PSs X b (TSt G W g)) :
    PS X (.If c a b pos) (TSt G W fun ρ M => (k ρ M).toF ρ fun t M1 => match t with
      | true => f ρ M1
      | false => g ρ M1) := by
  refine ps_imp (ps_if h0 h1 h2) fun D σ H h => ?_
  refine tx_imp (ts_toF (rel := fun _ _ a b => a = b) h) fun v H1 ⟨π, M, ρ, d, he, hm, r, h⟩ => ?_
  subst r
  cases d with
  | true => rw [if_pos rfl]; exact ⟨π, M, ρ, he, hm, h⟩
  | false => rw [if_neg (by decide)]; exact ⟨π, M, ρ, he, hm, h⟩
/-! ### stores -/
def fAsg (f : Env → Mem → R D) (t : D → Env → Mem → F) : Env → Mem → F := fun ρ M => (f ρ M).toF ρ fun d M1 => t d ρ M1
theorem pG_F {ts : List Nat} {r : F} {D : Ends} (h : pF G W r π H D) (hr : ∀ d ρ M, r ≠ .rt d ρ M) (hb : ∀ ρ M, r ≠ .bk ρ M) (hc : ∀ ρ M, r ≠ .ct ρ M) : pG G W ts σ r π H D.nx := by
  cases r with
  | nx ρ' M' => exact fun π' σ' H' x e m _ => h π' σ' H' x e m
  | ex e ρ' M' => exact h
  | rt d ρ M => exact absurd rfl (hr _ _ _)
  | bk ρ M => exact absurd rfl (hb _ _)
  | ct ρ M => exact absurd rfl (hc _ _)
  | bad => exact h
/-- a target ends by going on, an error, or nothing known -/
def Plain (t : D → Env → Mem → F) : Prop := ∀ d ρ M, (∀ d' ρ' M', t d ρ M ≠ .rt d' ρ' M') ∧ (∀ ρ' M', t d ρ M ≠ .bk ρ' M') ∧ ∀ ρ' M', t d ρ M ≠ .ct ρ' M'
theorem psd_asg {tg e : Expr} {ts : List Nat} {f : Env → Mem → R D} {t : D → Env → Mem → F} (h1 : PE X e (TD G W f)) (h2 : PG X tg (TGt G W ts t)) (hp : Plain t) (hs : swapsWithSole [tg] e pos.line X.env = pure false) (hw : swappedStores [tg] e X.env = pure none)
    (h3 : (assignEach [tg] X.env).map (·.2) = [assign tg X.env]) : PS X (.Assign [tg] e pos) (TSt G W (fAsg f t)) := by
  refine ps_imp (ps_asg h1 h2 hs hw h3) fun D σ H h => ?_
  refine tx_imp (ts_toF (rel := Rp G) h) fun v H1 ⟨π, M, ρ, d, he, hm, r, h⟩ => ?_
  obtain ⟨a, b, c⟩ := hp d ρ M
  exact ⟨π, M, ρ, d, he, hm, r, pG_F h a b c⟩
theorem psd_setLc {own : List (Str × Nat)} {i : Nat} {y : Str} {py : Pos} {elt tg iter : Expr} {ifs : List Expr} {scope : Scope} {pos spos : Pos} {ts : List Nat} {w : Env → Mem → R Wk} {t : D → Env → Mem → F} {tt : Env → Mem → R Bool} {te : Env → Mem → R D} (hc : X.calm = true) (hN : X.N.Nodup) (hy : X.N[i]? = some y) (hyl : X.env.scope.names.lookup y = some .local)
    (hsw : swapsWith (.ListComp elt [⟨tg, iter, ifs, 0⟩] scope pos) (some (.Name y py)) spos.line X.env = pure true) (hi : PI X tg iter (fun σ H R => TX G W (fun π H it J => ItrOk G it J π H) w σ H R)) (ok : BlkOk X.N X.env.scope scope own)
    (hg : ∀ (s : Shared) (H : Hp) (C : Addr) (cl : List (Str × Addr)) (fp : List Addr), PG (X.blk s H scope (compEnvC scope cl C X.env) fp) tg (TGt G W0 ts t)) (ht : ∀ (s : Shared) (H : Hp) (C : Addr) (cl : List (Str × Addr)) (fp : List Addr), PTs (X.blk s H scope (compEnvC scope cl C X.env) fp) ifs (TB G W0 tt))
    (he : ∀ (s : Shared) (H : Hp) (C : Addr) (cl : List (Str × Addr)) (fp : List Addr), PE (X.blk s H scope (compEnvC scope cl C X.env) fp) elt (TD G W0 te)) (hs : ∀ x, foldedSetIterable iter X.env x = pure x) (hts : ∀ i ∈ ts, i ∈ own.map (·.2)) :
    PS X (.Assign [.Name y py] (.ListComp elt [⟨tg, iter, ifs, 0⟩] scope pos) spos) (TSt G W (fAsg (fComp (own.map (·.2)) w t tt te) fun d ρ M => .nx (ρ.set i (some d)) M)) := by
  refine ps_imp (ps_setLc hc hN hy hyl hsw hi ok hg ht he hs) fun D σ H h => ?_
  refine lcD hts (tx_imp (ts_toF (rel := Rp G) h) fun v H1 ⟨π, M, ρ, d, he, hm, r, h⟩ => ?_)
  exact h _ _ _ .refl (he.set r) hm
theorem pd_lc {own : List (Str × Nat)} {elt tg iter : Expr} {ifs : List Expr} {scope : Scope} {pos : Pos} {ts : List Nat} {w : Env → Mem → R Wk} {t : D → Env → Mem → F} {tt : Env → Mem → R Bool} {te : Env → Mem → R D} (hc : X.calm = true) (hN : X.N.Nodup)
    (hi : PI X tg iter (fun σ H R => TX G W (fun π H it J => ItrOk G it J π H) w σ H R)) (ok : BlkOk X.N X.env.scope scope own)
    (hg : ∀ (s : Shared) (H : Hp) (C : Addr) (cl : List (Str × Addr)) (fp : List Addr), PG (X.blk s H scope (compEnvC scope cl C X.env) fp) tg (TGt G W0 ts t)) (ht : ∀ (s : Shared) (H : Hp) (C : Addr) (cl : List (Str × Addr)) (fp : List Addr), PTs (X.blk s H scope (compEnvC scope cl C X.env) fp) ifs (TB G W0 tt))
    (he : ∀ (s : Shared) (H : Hp) (C : Addr) (cl : List (Str × Addr)) (fp : List Addr), PE (X.blk s H scope (compEnvC scope cl C X.env) fp) elt (TD G W0 te)) (hs : ∀ x, foldedSetIterable iter X.env x = pure x) (hts : ∀ i ∈ ts, i ∈ own.map (·.2)) :
    PE X (.ListComp elt [⟨tg, iter, ifs, 0⟩] scope pos) (TD G W (fComp (own.map (·.2)) w t tt te)) :=
  pe_imp (pe_lc hc hN hi ok hg ht he hs) fun σ H Q h => lcD hts h
/-- a, b = x, y -/
def fPar (is : List Nat) (f : Env → Mem → R (List D)) : Env → Mem → F := fun ρ M => (f ρ M).toF ρ fun ds M1 => match is, ds with
  | [i, j], [d, e] => .nx ((ρ.set i (some d)).set j (some e)) M1
  | [i, j, k], [d, e, c] => .nx (((ρ.set i (some d)).set j (some e)).set k (some c)) M1
  | _, _ => .bad
theorem psd_par2 {i j : Nat} {x y : Str} {a b : Expr} {f : Env → Mem → R (List D)} {px py pt : Pos} {kt k2 pt2} (hc : X.calm = true) (hN : X.N.Nodup) (hi : X.N[i]? = some x) (hj : X.N[j]? = some y) (hij : i ≠ j)
    (hx : X.env.scope.names.lookup x = some .local) (hy : X.env.scope.names.lookup y = some .local) (ha : PA X [a, b] (TAs G W f))
    (hw : swappedStores [.Tuple [.Name x px, .Name y py] kt pt] (.Tuple [a, b] k2 pt2) X.env = pure (some [x, y])) :
    PS X (.Assign [.Tuple [.Name x px, .Name y py] kt pt] (.Tuple [a, b] k2 pt2) pos) (TSt G W (fPar [i, j] f)) := by
  refine ps_imp (ps_par hc hN hi hj hij hx hy ha hw rfl) fun D σ H h => ?_
  refine tx_imp (ts_toF (rel := Rps G) h) fun vs H1 ⟨π, M, ρ, ds, he, hm, r, h⟩ => ?_
  cases r with
  | nil => exact h.elim
  | cons r1 r =>
    cases r with
    | nil => exact h.elim
    | cons r2 r =>
      cases r with
      | cons _ _ => exact h.elim
      | nil => exact ⟨_, _, rfl, h _ _ _ .refl ((he.set r1).set r2) hm⟩
theorem psd_par3 {i j l : Nat} {x y z : Str} {a b c : Expr} {f : Env → Mem → R (List D)} {px py pz pt : Pos} {kt k2 pt2} (hc : X.calm = true) (hN : X.N.Nodup) (hi : X.N[i]? = some x) (hj : X.N[j]? = some y) (hl : X.N[l]? = some z) (hij : i ≠ j) (hil : i ≠ l) (hjl : j ≠ l)
    (hx : X.env.scope.names.lookup x = some .local) (hy : X.env.scope.names.lookup y = some .local) (hz : X.env.scope.names.lookup z = some .local) (ha : PA X [a, b, c] (TAs G W f))
    (hw : swappedStores [.Tuple [.Name x px, .Name y py, .Name z pz] kt pt] (.Tuple [a, b, c] k2 pt2) X.env = pure (some [x, y, z])) :
    PS X (.Assign [.Tuple [.Name x px, .Name y py, .Name z pz] kt pt] (.Tuple [a, b, c] k2 pt2) pos) (TSt G W (fPar [i, j, l] f)) := by
  refine ps_imp (ps_par3 hc hN hi hj hl hij hil hjl hx hy hz ha hw rfl) fun D σ H h => ?_
  refine tx_imp (ts_toF (rel := Rps G) h) fun vs H1 ⟨π, M, ρ, ds, he, hm, r, h⟩ => ?_
  cases r with
  | nil => exact h.elim
  | cons r1 r =>
    cases r with
    | nil => exact h.elim
    | cons r2 r =>
      cases r with
      | nil => exact h.elim
      | cons r3 r =>
        cases r with
        | cons _ _ => exact h.elim
        | nil => exact ⟨_, _, _, rfl, h _ _ _ .refl (((he.set r1).set r2).set r3) hm⟩
/-! ### loops -/
def fFor (w : Env → Mem → R Wk) (t : D → Env → Mem → F) (b : Env → Mem → F) : Env → Mem → F := fun ρ M => (w ρ M).toF ρ fun it M1 => loop it (fun d ρ2 M2 => (t d ρ2 M2).seq b) (it.most M1 + 1) 0 ρ M1
theorem psd_for {iter tg : Expr} {body : List Stmt} {ts : List Nat} {w : Env → Mem → R Wk} {t : D → Env → Mem → F} {b : Env → Mem → F} (hpo : PassesOwn (model X.prog X.w) X.A X.env X.xe) (hc : X.calm = true) (hi : PI X tg iter (fun σ H R => TX G W (fun π H it J => ItrOk G it J π H) w σ H R))
    (hg : PG X tg (TGt G W ts t)) (hp : Plain t) (hb : PSs X body (TSt G W b)) (hs : ∀ x, foldedSetIterable iter X.env x = pure x) : PS X (.For tg iter body [] pos) (TSt G W (fFor w t b)) := by
  refine ps_imp (ps_for hpo hc hi hg hb hs) fun D σ H h => ?_
  refine tx_imp (ts_toF (rel := fun π H it J => ItrOk G it J π H) h) fun J H1 ⟨π1, M1, ρ1, it, he, hm, hit, h⟩ => ?_
  refine ⟨fun i m σ H => ∃ π M ρ, Nx G π1 π H1 H ∧ EnvOk G π H ρ σ ∧ MemOk G π M H ∧ pF G W (loop it (fun d ρ2 M2 => (t d ρ2 M2).seq b) m i ρ M) π H D, ⟨_, π1, M1, ρ1, .refl, he, hm, h⟩, fun i m σ H hW => ?_⟩
  obtain ⟨π, M, ρ, x, he, mm, h⟩ := hW
  cases m with
  | zero => exact h.elim
  | succ f =>
    unfold loop at h
    cases ea : it.at M i with
    | bad => rw [ea] at h; exact h.elim
    | stop => rw [ea] at h; exact .inl ⟨hit.stop i π M H x mm ea, h _ _ _ .refl he mm⟩
    | yld d =>
      rw [ea] at h
      refine .inr ⟨hit.go i π M H d x mm ea, fun σ' H' => ∃ π' M' ρ', Nx G π1 π' H1 H' ∧ EnvOk G π' H' ρ' σ' ∧ MemOk G π' M' H' ∧ pF G W (loop it (fun d ρ2 M2 => (t d ρ2 M2).seq b) f (i + 1) ρ' M') π' H' D, fun σ' H' hN => ⟨f, Nat.lt_succ_self _, hN⟩, fun v H3 hy => ?_⟩
      obtain ⟨x3, m3, r3⟩ := hit.yld i π M H d v H3 x mm ea hy
      have h := pF_base h x3
      refine ⟨π, M, ρ, d, he.mono x3, m3, r3, ?_⟩
      have h : pF G W (match (t d ρ M).seq b with
        | .nx ρ' M' => loop it (fun d ρ2 M2 => (t d ρ2 M2).seq b) f (i + 1) ρ' M'
        | .ct ρ' M' => loop it (fun d ρ2 M2 => (t d ρ2 M2).seq b) f (i + 1) ρ' M'
        | .bk ρ' M' => .nx ρ' M'
        | r => r) π H3 D := h
      obtain ⟨n1, n2, n3⟩ := hp d ρ M
      generalize t d ρ M = rt at h n1 n2 n3 ⊢
      cases rt with
      | nx ρ2 M2 =>
        intro π4 σ4 H4 x4 e4 m4 _
        refine ⟨π4, M2, ρ2, e4, m4, ?_⟩
        have h := pF_base h x4
        simp only [F.seq] at h
        generalize b ρ2 M2 = rb at h ⊢
        have xx := x.trans (x3.trans x4)
        cases rb with
        | nx ρ5 M5 => exact fun π5 σ5 H5 x5 e5 m5 => ⟨π5, M5, ρ5, xx.trans x5, e5, m5, pF_base h x5⟩
        | ct ρ5 M5 => exact fun π5 σ5 H5 x5 e5 m5 => ⟨π5, M5, ρ5, xx.trans x5, e5, m5, pF_base h x5⟩
        | bk ρ5 M5 => exact h
        | rt d ρ5 M5 => exact h
        | ex e ρ5 M5 => exact h
        | bad => exact h
      | ex e ρ2 M2 => exact h
      | bad => exact h
      | rt d ρ M => exact absurd rfl (n1 _ _ _)
      | bk ρ M => exact absurd rfl (n2 _ _)
      | ct ρ M => exact absurd rfl (n3 _ _)
theorem psd_while {c : Expr} {body : List Stmt} {k : Env → Mem → R Bool} {b : Env → Mem → F} {n : Nat} (hpo : PassesOwn (model X.prog X.w) X.A X.env X.xe) (hc : PT X c (TB G W k)) (hb : PSs X body (TSt G W b)) :
    PS X (.While c body [] pos) (TSt G W fun ρ M => wloop k b n ρ M) := by
  refine ps_imp (ps_while hpo hc hb) fun D σ H ⟨π, M, ρ, he, hm, h⟩ => ?_
  refine ⟨fun m σ H => ∃ π M ρ, EnvOk G π H ρ σ ∧ MemOk G π M H ∧ pF G W (wloop k b m ρ M) π H D, ⟨n, π, M, ρ, he, hm, h⟩, fun m σ H hW => ?_⟩
  obtain ⟨π, M, ρ, he, hm, h⟩ := hW
  cases m with
  | zero => exact h.elim
  | succ f =>
    unfold wloop at h
    refine ⟨π, M, ρ, he, hm, ?_⟩
    generalize k ρ M = rk at h ⊢
    cases rk with
    | bad => exact h.elim
    | exc e M1 => exact fun π' H' cv dx x m er => h π' σ H' cv dx x (he.mono x) m er
    | ok t M1 =>
      intro π1 t' H1 x1 m1 et
      subst et
      have h := pF_base h x1
      cases t with
      | false => rw [if_neg (by decide)]; exact h _ _ _ .refl (he.mono x1) m1
      | true =>
        rw [if_pos rfl]
        refine ⟨fun σ' H' => ∃ π' M' ρ', EnvOk G π' H' ρ' σ' ∧ MemOk G π' M' H' ∧ pF G W (wloop k b f ρ' M') π' H' D, fun σ' H' hN => ⟨f, Nat.lt_succ_self _, hN⟩, π1, M1, ρ, he.mono x1, m1, ?_⟩
        have h : pF G W (match b ρ M1 with
          | .nx ρ' M' => wloop k b f ρ' M'
          | .ct ρ' M' => wloop k b f ρ' M'
          | .bk ρ' M' => .nx ρ' M'
          | r => r) π1 H1 D := h
        generalize b ρ M1 = rb at h ⊢
        cases rb with
        | nx ρ5 M5 => exact fun π5 σ5 H5 x5 e5 m5 => ⟨π5, M5, ρ5, e5, m5, pF_base h x5⟩
        | ct ρ5 M5 => exact fun π5 σ5 H5 x5 e5 m5 => ⟨π5, M5, ρ5, e5, m5, pF_base h x5⟩
        | bk ρ5 M5 => exact h
        | rt d ρ5 M5 => exact h
        | ex e ρ5 M5 => exact h
        | bad => exact h
/-! ### errors raised -/
theorem psd_raise {c : Nat} {x m : Str} {j : Nat} {p p2 pos pos2 : Pos} (hc : X.calm = true) (tk : Takes X W) (q : PySem.W.excIn X.K (G.ca c) He.veBase "ValueError.__new__" = true) (gC : X.mg x = some (.ref (G.ca c))) (kC : PySem.W.keepIn X.K (.ref (G.ca c)) = true)
    (r1 : PySem.W.subIn X.K (.ref (G.ca c)) (.type "BaseException") = some true) (r2 : PySem.W.typeIn X.K (.ref (G.ca c)) = some (.type "type")) (hg : Gl X x) (hdb : (x == ("__debug__" : Str)) = false) :
    PS X (.Raise (some (.Call (.Name x p) [.Constant (.str m) j p2] [] pos)) none pos2) (TSt G W fun ρ M => .ex ⟨c, none⟩ ρ M) := by
  refine ps_imp (ps_raise hc tk (pmk_own PySem.F.excBase_ValueError q gC kC (raises_own r1 r2) hg hdb)) fun D σ H ⟨π, M, ρ, he, hm, h⟩ => ?_
  exact h _ _ _ _ _ .refl he hm ⟨rfl, rfl, rfl⟩
end
end DL

/-! DL: from the text to the small language -/
namespace DL
open PySem PySem.Spec PyProof.Rows L2
/-- what a module's name stands for: a def (its number, how many parameters), a constant, an error class, a def that calls what it gets and tells errors -/
inductive GV where
  | fn (g n : Nat) | cst (d : D) | exc (c : Nat) | err (n : Nat) (h : List (List Nat × D)) (ret : D)
structure Sta where
  gv : List (Str × GV)
  bl : List Str
  lam : Bool
  n : Nat
  sub : Nat → Nat → Bool
def isVis (sc : Scope) (x : Str) : Bool := match sc.names.lookup x with
  | some .local => true
  | some .cell => true
  | some .free => true
  | _ => false
def isGlo (sc : Scope) (x : Str) : Bool := match sc.names.lookup x with
  | some .globalImplicit => true
  | _ => false
def isLoc (sc : Scope) (x : Str) : Bool := match sc.names.lookup x with
  | some .local => true
  | some .cell => true
  | _ => false
def isLocal (sc : Scope) (x : Str) : Bool := match sc.names.lookup x with
  | some .local => true
  | _ => false
def slot (N : List Str) (x : Str) : Option Nat := match N.findIdx? (· == x) with
  | some i => match decide (N[i]? = some x) with
    | true => some i
    | false => none
  | none => none
theorem slot_ok {N : List Str} {x : Str} {i : Nat} (h : slot N x = some i) : N[i]? = some x := by
  unfold slot at h
  cases e : N.findIdx? (· == x) with
  | none => rw [e] at h; cases h
  | some j =>
    rw [e] at h
    simp only at h
    cases e2 : decide (N[j]? = some x) with
    | false => rw [e2] at h; cases h
    | true => rw [e2] at h; cases h; exact of_decide_eq_true e2
def bopOf : Operator → Option BOp
  | .Add => some .add
  | .Sub => some .sub
  | .Mult => some .mul
  | .FloorDiv => some .fdiv
  | .Mod => some .mod
  | .Pow => some .pow
  | .LShift => some .shl
  | .RShift => some .shr
  | .BitAnd => some .band
  | .BitOr => some .bor
  | .BitXor => some .bxor
  | _ => none
theorem bopOf_ok {o : Operator} {b : BOp} (h : bopOf o = some b) : b.op = o := by
  cases o <;> first | (cases h; rfl) | cases h
def copOf : CmpOp → Option COp
  | .Eq => some .eq
  | .NotEq => some .ne
  | .Lt => some .lt
  | .LtE => some .le
  | .Gt => some .gt
  | .GtE => some .ge
  | .Is => some .is
  | .IsNot => some .isnot
  | .In => some .isin
  | .NotIn => some .notin
theorem copOf_ok {o : CmpOp} {b : COp} (h : copOf o = some b) : b.op = o := by
  cases o <;> first | (cases h; rfl) | cases h
/-- built-ins called by their names -/
def primOf (x : Str) (n : Nat) : Option Prim :=
  if x == ("len" : Str) && n == 1 then some .len
  else if x == ("abs" : Str) && n == 1 then some .abs
  else if x == ("min" : Str) && n == 2 then some .min2
  else if x == ("max" : Str) && n == 2 then some .max2
  else if x == ("int" : Str) && n == 1 then some .int1
  else if x == ("tuple" : Str) && n == 1 then some .tuple
  else if x == ("list" : Str) && n == 1 then some .list
  else if x == ("all" : Str) && n == 1 then some .all
  else if x == ("any" : Str) && n == 1 then some .any
  else if x == ("sum" : Str) && n == 1 then some .sum
  else if x == ("min" : Str) && n == 1 then some .minl
  else if x == ("max" : Str) && n == 1 then some .maxl
  else none
/-- a type by its name -/
def tyOfName (x : Str) : Option String :=
  if x == ("int" : Str) then some "int"
  else if x == ("bool" : Str) then some "bool"
  else if x == ("str" : Str) then some "str"
  else if x == ("tuple" : Str) then some "tuple"
  else if x == ("list" : Str) then some "list"
  else if x == ("dict" : Str) then some "dict"
  else none
def tyNames (S : Sta) (sc : Scope) : List Expr → Option (List (Str × Pos × String))
  | [] => some []
  | .Name x p :: r => match tyOfName x with
    | some t => match isGlo sc x && S.bl.contains x with
      | true => (tyNames S sc r).map ((x, p, t) :: ·)
      | false => none
    | none => none
  | _ => none
def ownOf (N : List Str) : List (Str × NameKind) → List (Str × Nat)
  | [] => []
  | (x, k) :: r => match k with
    | .local => match slot N x with
      | some i => (x, i) :: ownOf N r
      | none => ownOf N r
    | .cell => match slot N x with
      | some i => (x, i) :: ownOf N r
      | none => ownOf N r
    | _ => ownOf N r
def okName (x : Str) : Bool := !(x == ("__debug__" : Str)) && !(x == ("__classdict__" : Str))
def free (S : Sta) (sc : Scope) (x : Str) : Bool := isGlo sc x && (S.bl.contains x && !(x == ("__name__" : Str)) && !(x == ("__debug__" : Str)))
/-- the block's scope (isGenerator: within a lambda) -/
def mkS (sc scope : Scope) : Scope := { scope with isGenerator := sc.isGenerator }
/-- a lambda without parameters -/
def lamP (p : Arguments) : Bool := match p with
  | ⟨[], [], none, [], [], none, []⟩ => true
  | _ => false
section
variable (S : Sta) (N : List Str)
mutual
def trE : Nat → Scope → Expr → Option IE
  | 0, _, _ => none
  | n + 1, sc, e => match e with
    | .Name x _ => match isVis sc x && okName x with
      | true => (slot N x).map .var
      | false => match isGlo sc x && okName x with
        | true => match S.gv.lookup x with
          | some (.cst d) => some (.cst d)
          | _ => none
        | false => none
    | .Constant c _ _ => match c with
      | .int i => some (.cst (.int i))
      | .bool b => some (.cst (.bl b))
      | .none => some (.cst .non)
      | .str x => match PyData.strOk x && decide (x.length ≤ 1000000) with
        | true => some (.cst (.str x))
        | false => none
      | _ => none
    | .Tuple es _ _ => match decide (es.length ≤ 1000000) with
      | true => (trEs n sc es).map .tup
      | false => none
    | .List es _ => match decide (es.length ≤ 1000000) with
      | true => (trEs n sc es).map .lst
      | false => none
    | .UnaryOp o a _ => match o with
      | .Not => (trE n sc a).map (.un .not)
      | .USub => (trE n sc a).map (.un .neg)
      | _ => none
    | .BinOp a o b _ => (bopOf o).bind fun o' => (trE n sc a).bind fun a' => (trE n sc b).bind fun b' => some (.bin o' a' b')
    | .Compare a ops bs _ => match ops with
      | [o] => match bs with
        | [b] => (copOf o).bind fun o' => (trE n sc a).bind fun a' => (trE n sc b).bind fun b' => some (.cmp o' a' b')
        | _ => none
      | [o, p] => match bs with
        | [b, c] => (copOf o).bind fun o' => (copOf p).bind fun p' => (trE n sc a).bind fun a' => (trE n sc b).bind fun b' => (trE n sc c).bind fun c' => some (.cmp2 o' p' a' b' c')
        | _ => none
      | _ => none
    | .BoolOp op es _ => trB n sc op es
    | .IfExp c a b _ => (trE n sc c).bind fun c' => (trE n sc a).bind fun a' => (trE n sc b).bind fun b' => some (.ifx c' a' b')
    | .Subscript a b _ => match b with
      | .Slice lo hi st _ => match st with
        | none => (trE n sc a).bind fun a' => (trO n sc lo).bind fun l' => (trO n sc hi).bind fun h' => some (.slc a' l' h')
        | some _ => none
      | _ => (trE n sc a).bind fun a' => (trE n sc b).bind fun b' => some (.idx a' b')
    | .Call f es kws pos => match kws with
      | [] => match f with
        | .Name x _ => trCall n sc x es
        | .Attribute o m apos => match es with
          | [a] => match apos.endLine == pos.line with
            | true => match o with
              | .Name _ _ => (trE n sc o).bind fun o' => (trE n sc a).bind fun a' => if m == ("append" : Str) then some (.mth .append o' a') else if m == ("extend" : Str) then some (.mth .extend o' a') else none
              | _ => none
            | false => none
          | _ => none
        | _ => none
      | _ => none
    | .ListComp elt gens scope _ => match gens with
      | [g] => match g with
        | ⟨tg, iter, ifs, a⟩ => match a == 0 && blkC N sc scope (ownOf N scope.names) with
          | true => (trSrc n sc tg iter).bind fun se => (trG n (mkS sc scope) tg).bind fun t => match t.2.all fun i => (((ownOf N scope.names).map (·.2)).contains i) with
            | true => (trIfs n (mkS sc scope) ifs).bind fun ifs' => (trE n (mkS sc scope) elt).bind fun e' => some (.comp ((ownOf N scope.names).map (·.2)) se.1 se.2 t.1 ifs' e')
            | false => none
          | false => none
      | _ => none
    | _ => none
def trEs : Nat → Scope → List Expr → Option IEs
  | 0, _, _ => none
  | n + 1, sc, es => match es with
    | [] => some .nil
    | e :: r => match trE n sc e with
      | some e' => match trEs n sc r with
        | some r' => some (.cons e' r')
        | none => none
      | none => none
def trB : Nat → Scope → BoolOp → List Expr → Option IE
  | 0, _, _, _ => none
  | n + 1, sc, op, es => match es with
    | [] => none
    | e :: r => match trE n sc e with
      | some e' => match r with
        | [] => some e'
        | _ :: _ => match trB n sc op r with
          | some r' => match op with
            | .And => some (.and e' r')
            | .Or => some (.or e' r')
          | none => none
      | none => none
def trO : Nat → Scope → Option Expr → Option IEo
  | 0, _, _ => none
  | n + 1, sc, o => match o with
    | none => some .no
    | some e => (trE n sc e).map .yes
def trIfs : Nat → Scope → List Expr → Option IEs
  | 0, _, _ => none
  | n + 1, sc, es => match es with
    | [] => some .nil
    | [e] => (trE n sc e).map fun e' => .cons e' .nil
    | _ => none
def trCall : Nat → Scope → Str → List Expr → Option IE
  | 0, _, _, _ => none
  | n + 1, sc, x, es => match isGlo sc x && okName x with
    | true => match S.gv.lookup x with
      | some v => match v with
        | .fn g m => match es.length == m with
          | true => (trEs n sc es).map (.call g)
          | false => none
        | .err k h ret => match es with
          | [l] => match l with
            | .Lambda p body scope _ => match (S.lam && !sc.isGenerator) && (lamP p && LamX.lamSB sc scope) with
              | true => (trE n { scope with isGenerator := true } body).map (.lam k h ret)
              | false => none
            | _ => none
          | _ => none
        | _ => none
      | none => match free S sc x with
        | true => match x == ("isinstance" : Str) with
          | true => match es with
            | [e, t] => match trE n sc e with
              | some e' => match t with
                | .Name y _ => match tyOfName y with
                  | some T => match free S sc y with
                    | true => some (.prim (.isinst [T]) (.cons e' .nil))
                    | false => none
                  | none => none
                | .Tuple ts _ _ => match tyNames S sc ts with
                  | some l => match decide (l.length ≤ 100) with
                    | true => some (.prim (.isinst (l.map (·.2.2))) (.cons e' .nil))
                    | false => none
                  | none => none
                | _ => none
              | none => none
            | _ => none
          | false => match trRng n sc x es with
            | some i => some i
            | none => match primOf x es.length with
              | some p => (trEs n sc es).map (.prim p)
              | none => none
        | false => none
    | false => none
/-- list(range(..)), tuple(range(..)) -/
def trRng : Nat → Scope → Str → List Expr → Option IE
  | 0, _, _, _ => none
  | n + 1, sc, x, es => match es with
    | [e] => match e with
      | .Call f as kws _ => match kws with
        | [] => match f with
          | .Name r _ => match r == ("range" : Str) && free S sc r with
            | true => match as.length == 1 || as.length == 2 with
              | true => if x == ("list" : Str) then (trEs n sc as).map (.prim .lrange) else if x == ("tuple" : Str) then (trEs n sc as).map (.prim .trange) else none
              | false => none
            | false => none
          | _ => none
        | _ => none
      | _ => none
    | _ => none
def trSrc : Nat → Scope → Expr → Expr → Option (Src × IEs)
  | 0, _, _, _ => none
  | n + 1, sc, tg, e => match trSrcB n sc tg e with
    | some r => some r
    | none => match trE n sc e with
      | some e' => some (.seq, .cons e' .nil)
      | none => none
/-- range(..), zip(..), enumerate(..) -/
def trSrcB : Nat → Scope → Expr → Expr → Option (Src × IEs)
  | 0, _, _, _ => none
  | n + 1, sc, tg, e => match e with
    | .Call f as kws _ => match kws with
      | [] => match f with
        | .Name r _ => match free S sc r with
          | true => match r == ("range" : Str) with
            | true => match as with
              | [_] => (trEs n sc as).map fun a => (.rng, a)
              | [_, _] => (trEs n sc as).map fun a => (.rng, a)
              | [_, _, _] => (trEs n sc as).map fun a => (.rng, a)
              | _ => none
            | false => match tg with
              | .Tuple _ _ _ => match r == ("enumerate" : Str) with
                | true => match as with
                  | [_] => (trEs n sc as).map fun a => (.enum, a)
                  | _ => none
                | false => match r == ("zip" : Str) with
                  | true => match as with
                    | [_, _] => (trEs n sc as).map fun a => (.zip, a)
                    | _ => none
                  | false => none
              | _ => none
          | false => none
        | _ => none
      | _ => none
    | _ => none
def trG : Nat → Scope → Expr → Option (ITg × List Nat)
  | 0, _, _ => none
  | n + 1, sc, e => match e with
    | .Name x _ => match isLoc sc x with
      | true => (slot N x).map fun i => (.name i, [i])
      | false => none
    | .Tuple es _ _ => (trGs n sc es).map fun t => (.tup t.1, t.2)
    | .Subscript o i _ => match i with
      | .Slice _ _ _ _ => none
      | _ => match trE n sc o with
        | some o' => match trE n sc i with
          | some i' => some (.sub o' i', [])
          | none => none
        | none => none
    | _ => none
def trGs : Nat → Scope → List Expr → Option (ITgs × List Nat)
  | 0, _, _ => none
  | n + 1, sc, es => match es with
    | [] => some (.nil, [])
    | e :: r => match trG n sc e with
      | some t => match trGs n sc r with
        | some u => some (.cons t.1 u.1, t.2 ++ u.2)
        | none => none
      | none => none
end
end
end DL

/-! DL: the small language is what the text means -/
namespace DL
open PySem PySem.Spec PyProof.Rows L2
/-- the facts of a def that calls what it gets: x(lambda: body) -/
def ErrRule (X : Cx) (G : Gm) (k : Nat) (x : Str) (n : Nat) (h : List (List Nat × D)) (ret : D) : Prop :=
  ∀ (Y : Cx), Y.prog = X.prog → Y.w = X.w → Y.K = X.K → Y.mg = X.mg → Y.base = X.base → Room (k + 2) Y.A → Gl Y x → ∀ (W : WX) (params : Arguments) (body : Expr) (scope : Scope) (p lpos pos : Pos) (f : Env → Mem → R D), lamP params = true → LamX.LamS Y.env.scope scope →
    (∃ c P, LamX.TabB Y.base Y.mg c P ∧ Y.env.code = .ref c ∧ (P, Y.env.qual ++ "<lambda>") ∈ G.T ∧ ∀ q ∈ G.T, q.1 = P → q.2 = Y.env.qual ++ "<lambda>") →
    (∀ (A : Around) (outer : List PySem.Env) (s : Shared) (H : Hp) (E : XK) (f0 c' : Addr), Room k (A.deeper (LamX.lamEnv Y scope s.heap.objs.size f0 c')) → PE (LamX.lamCx Y A outer s H E scope f0 c') body (TD G (fun cv dx _ H' => E cv dx H') f)) →
    PE Y (.Call (.Name x p) [.Lambda params body scope lpos] [] pos) (TD G W fun ρ M => lamR n h ret (f ρ M))
structure Glo (S : Sta) (X : Cx) (G : Gm) (call : Nat → List D → Mem → R D) (k : Nat) : Prop where
  fn : ∀ x g m, S.gv.lookup x = some (.fn g m) → X.mg x = some (.ref (G.fa g)) ∧ PySem.W.keepIn X.K (.ref (G.fa g)) = true ∧ ∃ fd ps, FnOk X.prog X.w X.K X.mg X.base (L2.CX X.prog X.w) k (G.fa g) fd ps (spD G (call g) m) ∧ Binds X.K fd ps []
  cst : ∀ x d, S.gv.lookup x = some (.cst d) → ∃ u v, X.mg x = some u ∧ RelV v u ∧ ∀ π H, Rp G π H d v
  exc : ∀ x c, S.gv.lookup x = some (.exc c) → X.mg x = some (.ref (G.ca c)) ∧ PySem.W.excIn X.K (G.ca c) He.veBase "ValueError.__new__" = true ∧ PySem.W.keepIn X.K (.ref (G.ca c)) = true ∧ PySem.W.subIn X.K (.ref (G.ca c)) (.type "BaseException") = some true ∧ PySem.W.typeIn X.K (.ref (G.ca c)) = some (.type "type")
  sub : ∀ a b, a < S.n → b < S.n → PySem.W.exmOne X.K (.ref (G.ca a)) (.ref (G.ca b)) = some (S.sub a b)
  err : ∀ x n h ret, S.gv.lookup x = some (.err n h ret) → ErrRule X G k x n h ret
  bl : ∀ x ∈ S.bl, X.mg x = none
/-- kinds of names, as they run -/
def ScR (sc run : Scope) : Prop := ∀ x k, sc.names.lookup x = some k → (k ≠ .free → run.names.lookup x = some k) ∧ (k = .free → run.names.lookup x = some .free ∨ run.names.lookup x = some .cell)
structure Ctx (S : Sta) (X : Cx) (G : Gm) (N : List Str) (sc : Scope) (call : Nat → List D → Mem → R D) (k : Nat) (W : WX) : Prop where
  hK : G.K = X.K
  hN : X.N = N
  nd : N.Nodup
  rel : ScR sc X.env.scope
  calm : X.calm = true
  room : Room k X.A
  tk : Takes X W
  fn : ∀ x, sc.names.lookup x = some .cell → X.fn x = true
  glo : Glo S X G call k
  lam : S.lam = true → sc.isGenerator = false → Room (k + 2) X.A ∧ ∃ c P, LamX.TabB X.base X.mg c P ∧ X.env.code = .ref c ∧ (P, X.env.qual ++ "<lambda>") ∈ G.T ∧ ∀ q ∈ G.T, q.1 = P → q.2 = X.env.qual ++ "<lambda>"
section
variable {S : Sta} {X : Cx} {G : Gm} {N : List Str} {sc : Scope} {call : Nat → List D → Mem → R D} {k : Nat} {W : WX}
theorem Ctx.un (C : Ctx S X G N sc call k W) : X.A.units + 64 < cLine := C.room.units
theorem isVis_ok {run : Scope} {x : Str} (r : ScR sc run) (h : isVis sc x = true) : Vis run x := by
  unfold isVis at h
  split at h
  · exact .inl ((r x _ (by assumption)).1 (by decide))
  · exact .inr (.inl ((r x _ (by assumption)).1 (by decide)))
  · rcases (r x _ (by assumption)).2 rfl with z | z
    · exact .inr (.inr z)
    · exact .inr (.inl z)
  · cases h
theorem isGlo_ok {x : Str} (r : ScR sc X.env.scope) (h : isGlo sc x = true) : Gl X x := by
  unfold isGlo at h
  split at h
  · exact (r x _ (by assumption)).1 (by decide)
  · cases h
theorem isLoc_ok {run : Scope} {x : Str} (r : ScR sc run) (h : isLoc sc x = true) : Loc run x := by
  unfold isLoc at h
  split at h
  · exact .inl ((r x _ (by assumption)).1 (by decide))
  · exact .inr ((r x _ (by assumption)).1 (by decide))
  · cases h
theorem isLoc_fn {x : Str} (C : Ctx S X G N sc call k W) (h : isLoc sc x = true) : X.fn x = true ∨ X.env.scope.names.lookup x = some .local := by
  unfold isLoc at h
  split at h
  · exact .inr ((C.rel x _ (by assumption)).1 (by decide))
  · exact .inl (C.fn x (by assumption))
  · cases h
theorem okName_ok {x : Str} (h : okName x = true) : (x == ("__debug__" : Str)) = false ∧ (x == ("__classdict__" : Str)) = false := by
  unfold okName at h
  simp only [Bool.and_eq_true, Bool.not_eq_true'] at h
  exact h
theorem free_ok {x : Str} (C : Ctx S X G N sc call k W) (h : free S sc x = true) : Gl X x ∧ X.mg x = none ∧ x ≠ "__name__" ∧ (x == ("__debug__" : Str)) = false := by
  unfold free at h
  simp only [Bool.and_eq_true, Bool.not_eq_true', List.contains_iff_mem] at h
  exact ⟨isGlo_ok C.rel h.1, C.glo.bl x h.2.1.1, by simpa using h.2.1.2, h.2.2⟩
theorem lookup_free {sc : Scope} : ∀ {names : List (Str × NameKind)} {x : Str}, names.lookup x = some .free →
    (names.map fun (n, k) => if (k == NameKind.free && sc.kind == .function && sc.names.lookup n == some .cell) then (n, NameKind.cell) else (n, k)).lookup x = some .free ∨
    (names.map fun (n, k) => if (k == NameKind.free && sc.kind == .function && sc.names.lookup n == some .cell) then (n, NameKind.cell) else (n, k)).lookup x = some .cell
  | [], _, h => by simp at h
  | (n, k₀) :: r, x, h => by
    have ih := @lookup_free sc r x
    show List.lookup x ((if (k₀ == NameKind.free && sc.kind == .function && sc.names.lookup n == some .cell) = true then (n, NameKind.cell) else (n, k₀)) :: (r.map _)) = some NameKind.free ∨ List.lookup x ((if (k₀ == NameKind.free && sc.kind == .function && sc.names.lookup n == some .cell) = true then (n, NameKind.cell) else (n, k₀)) :: (r.map _)) = some NameKind.cell
    by_cases hc : (k₀ == NameKind.free && sc.kind == .function && sc.names.lookup n == some .cell) = true
    · rw [if_pos hc]
      simp only [List.lookup_cons] at h ⊢
      cases hx : x == n with
      | true => exact .inr rfl
      | false => rw [hx] at h; exact ih h
    · rw [if_neg hc]
      simp only [List.lookup_cons] at h ⊢
      cases hx : x == n with
      | true => rw [hx] at h; exact .inl h
      | false => rw [hx] at h; exact ih h
/-! ### what runs in a comprehension, in a lambda -/
theorem blk_ctx {scope : Scope} {own : List (Str × Nat)} (C : Ctx S X G N sc call k W) (hb : BlkOk N sc scope own) (s : Shared) (H : Hp) (c : Addr) (cl : List (Str × Addr)) (fp : List Addr) : Ctx S (X.blk s H scope (compEnvC scope cl c X.env) fp) G N (mkS sc scope) call k W0 := by
  refine ⟨C.hK, C.hN, C.nd, fun x kd h => ⟨fun hk => ?_, fun hk => ?_⟩, C.calm, C.room, LamX.takes0, fun x h => ?_, ⟨C.glo.fn, C.glo.cst, C.glo.exc, C.glo.sub, C.glo.err, C.glo.bl⟩, C.lam⟩
  · exact lookup_relS_keep (sc := X.env.scope) hk h
  · subst hk
    exact lookup_free h
  · have h : scope.names.lookup x = some .cell := h
    show (scope.names.lookup x == some .cell) = true
    rw [h]; rfl
theorem blk_ok {scope : Scope} {own : List (Str × Nat)} (C : Ctx S X G N sc call k W) (hb : BlkOk N sc scope own) : BlkOk X.N X.env.scope scope own := by
  rw [C.hN]
  refine ⟨hb.kind, hb.uniq, hb.ix, fun y hy e => ?_, hb.own⟩
  rcases hb.free y hy e with z | z
  · exact .inl ((C.rel _ _ z).1 (by decide))
  · rcases (C.rel _ _ z).2 rfl with q | q
    · exact .inr q
    · exact .inl q
theorem lamS_ok {scope : Scope} (C : Ctx S X G N sc call k W) (h : LamX.LamS sc scope) : LamX.LamS X.env.scope scope := by
  refine ⟨h.kind, h.co, h.gen, h.own, fun y hy e => ?_⟩
  rcases h.free y hy e with z | z
  · exact .inl ((C.rel _ _ z).1 (by decide))
  · rcases (C.rel _ _ z).2 rfl with q | q
    · exact .inr q
    · exact .inl q
theorem lam_ctx {scope : Scope} (C : Ctx S X G N sc call k W) (hl : LamX.LamS sc scope) (A : Around) (outer : List PySem.Env) (s : Shared) (H : Hp) (E : XK) (f c' : Addr) (hr : Room k (A.deeper (LamX.lamEnv X scope s.heap.objs.size f c'))) :
    Ctx S (LamX.lamCx X A outer s H E scope f c') G N { scope with isGenerator := true } call k (fun cv dx _ H' => E cv dx H') := by
  refine ⟨C.hK, C.hN, C.nd, fun x kd h => ⟨fun _ => h, fun hk => .inl (by rw [← hk]; exact h)⟩, rfl, hr, ?_, fun x h => ?_, ⟨C.glo.fn, C.glo.cst, C.glo.exc, C.glo.sub, C.glo.err, C.glo.bl⟩, fun _ z => by cases z⟩
  · exact takes_of rfl rfl rfl rfl
  · exact absurd rfl (hl.own _ (PySem.mem_of_lookup h)).2
/-! ### shapes of the text -/
theorem tr_star {n : Nat} {e : Expr} {i : IE} (h : trE S N n sc e = some i) (es : List Expr) (env : PySem.Env) : starEach (e :: es) env = (false, eval e env) :: starEach es env := by
  cases e with
  | Starred _ _ => cases n <;> simp [trE] at h
  | _ => rfl
theorem tr_mark {n : Nat} {e : Expr} {i : IE} (h : trE S N n sc e = some i) (op : CmpOp) : behindInMarks op e = false := by
  cases e with
  | Set _ _ _ => cases n <;> simp [trE] at h
  | _ => rfl
theorem tr_folded {n : Nat} {e : Expr} {i : IE} (h : trE S N n sc e = some i) (env : PySem.Env) (x : Value) : foldedSetIterable e env x = pure x := by
  cases e with
  | Set _ _ _ => cases n <;> simp [trE] at h
  | _ => rfl
theorem tr_plain {n : Nat} {e : Expr} {i : IE} (h : trE S N n sc e = some i) : PlainIx e := by
  cases e with
  | Slice _ _ _ _ => cases n <;> simp [trE] at h
  | _ => exact fun _ _ => rfl
theorem tr_sub {n : Nat} {o e : Expr} {i : IE} {pos : Pos} (h : trE S N n sc e = some i) (env : PySem.Env) : ∀ v, assign (.Subscript o e pos) env v = (do
      let ov ← holding [v] (eval o env)
      let iv ← holding [v, ov] (eval e env)
      standAt pos
      holding [v, ov, iv] (PySem.setItem ov iv v)
      release [v, ov, iv] []) := by
  cases e with
  | Slice _ _ _ _ => cases n <;> simp [trE] at h
  | _ => exact fun _ => rfl
theorem trs_plain : ∀ {n : Nat} {es : List Expr} {is : IEs}, trEs S N n sc es = some is → ∀ (pos : Pos) (env : PySem.Env), (backTo pos (starEach es env)).any (·.1) = false := by
  intro n
  induction n with
  | zero => intro es is h; simp [trEs] at h
  | succ n ih =>
    intro es is h pos env
    cases es with
    | nil => rfl
    | cons e r =>
      simp only [trEs] at h
      cases h1 : trE S N n sc e with
      | none => rw [h1] at h; cases h
      | some e' =>
        rw [h1] at h
        simp only at h
        cases h2 : trEs S N n sc r with
        | none => rw [h2] at h; cases h
        | some r' =>
          rw [tr_star h1]
          have := ih h2 pos env
          simp only [backTo] at this ⊢
          first
            | exact this
            | simpa using this
end
end DL

/-! DL: expressions mean what their translations give -/
namespace DL
open PySem PySem.Spec PyProof.Rows L2
section
variable {call : Nat → List D → Mem → R D}
theorem evEs_len : ∀ {is : IEs} {ρ : Env} {M M' : Mem} {ds : List D}, evEs call is ρ M = .ok ds M' → ds.length = is.len
  | .nil, ρ, M, M', ds, h => by cases h; rfl
  | .cons e r, ρ, M, M', ds, h => by
    have h : ((evE call e ρ M).bind fun d M1 => (evEs call r ρ M1).bind fun ds M2 => R.ok (d :: ds) M2) = .ok ds M' := h
    cases e1 : evE call e ρ M with
    | bad => rw [e1] at h; cases h
    | exc _ _ => rw [e1] at h; cases h
    | ok d M1 =>
      rw [e1] at h
      simp only [R.bind] at h
      cases e2 : evEs call r ρ M1 with
      | bad => rw [e2] at h; cases h
      | exc _ _ => rw [e2] at h; cases h
      | ok ds' M2 =>
        rw [e2] at h
        cases h
        show ds'.length + 1 = r.len + 1
        rw [evEs_len e2]
/-- targets end plainly -/
def PlF (r : F) : Prop := (∀ d' ρ' M', r ≠ .rt d' ρ' M') ∧ (∀ ρ' M', r ≠ .bk ρ' M') ∧ ∀ ρ' M', r ≠ .ct ρ' M'
theorem plF_bad : PlF .bad := ⟨fun _ _ _ z => (by cases z), fun _ _ z => (by cases z), fun _ _ z => (by cases z)⟩
theorem plF_nx {ρ : Env} {M : Mem} : PlF (.nx ρ M) := ⟨fun _ _ _ z => (by cases z), fun _ _ z => (by cases z), fun _ _ z => (by cases z)⟩
theorem plF_ex {e : Exn} {ρ : Env} {M : Mem} : PlF (.ex e ρ M) := ⟨fun _ _ _ z => (by cases z), fun _ _ z => (by cases z), fun _ _ z => (by cases z)⟩
theorem plF_toF {α : Type} {r : R α} {ρ : Env} {f : α → Mem → F} (h : ∀ a M, PlF (f a M)) : PlF (r.toF ρ f) := by
  cases r with
  | ok a M => exact h a M
  | exc e M => exact plF_ex
  | bad => exact plF_bad
mutual
theorem evG_pl : ∀ (t : ITg) (d : D) (ρ : Env) (M : Mem), PlF (evG call t d ρ M)
  | .name i, d, ρ, M => plF_nx
  | .tup ts, d, ρ, M => by
    show PlF (match items M d with
      | some ds => match decide (ds.length = ts.len) with
        | true => evGs call ts ds ρ M
        | false => .bad
      | none => .bad)
    cases items M d with
    | none => exact plF_bad
    | some ds =>
      simp only
      cases decide (ds.length = ts.len) with
      | false => exact plF_bad
      | true => exact evGs_pl ts ds ρ M
  | .sub o i, d, ρ, M => by
    show PlF ((evE call o ρ M).toF ρ fun a M1 => (evE call i ρ M1).toF ρ fun b M2 => match setItem M2 a b d with
      | some M3 => .nx ρ M3
      | none => .bad)
    refine plF_toF fun a M1 => plF_toF fun b M2 => ?_
    cases setItem M2 a b d with
    | none => exact plF_bad
    | some M3 => exact plF_nx
theorem evGs_pl : ∀ (ts : ITgs) (ds : List D) (ρ : Env) (M : Mem), PlF (evGs call ts ds ρ M)
  | .nil, [], ρ, M => plF_nx
  | .nil, _ :: _, ρ, M => plF_bad
  | .cons _ _, [], ρ, M => plF_bad
  | .cons t r, d :: ds, ρ, M => by
    show PlF ((evG call t d ρ M).seq fun ρ1 M1 => evGs call r ds ρ1 M1)
    have h := evG_pl t d ρ M
    generalize evG call t d ρ M = x at h ⊢
    cases x with
    | nx ρ1 M1 => exact evGs_pl r ds ρ1 M1
    | rt d' ρ' M' => exact absurd rfl (h.1 _ _ _)
    | bk ρ' M' => exact absurd rfl (h.2.1 _ _)
    | ct ρ' M' => exact absurd rfl (h.2.2 _ _)
    | ex e ρ' M' => exact plF_ex
    | bad => exact plF_bad
end
theorem evG_plain (t : ITg) : Plain fun d ρ M => evG call t d ρ M := fun d ρ M => evG_pl t d ρ M
end
structure Snd (S : Sta) (N : List Str) (n : Nat) : Prop where
  e : ∀ {X : Cx} {G : Gm} {sc : Scope} {call : Nat → List D → Mem → R D} {k : Nat} {W : WX} {e : Expr} {i : IE}, Ctx S X G N sc call k W → trE S N n sc e = some i → PE X e (TD G W (evE call i)) ∧ PT X e (TB G W (evT call i))
  es : ∀ {X : Cx} {G : Gm} {sc : Scope} {call : Nat → List D → Mem → R D} {k : Nat} {W : WX} {es : List Expr} {is : IEs}, Ctx S X G N sc call k W → trEs S N n sc es = some is → PA X es (TAs G W (evEs call is)) ∧ is.len = es.length
  b : ∀ {X : Cx} {G : Gm} {sc : Scope} {call : Nat → List D → Mem → R D} {k : Nat} {W : WX} {op : BoolOp} {es : List Expr} {i : IE} {pos : Pos}, Ctx S X G N sc call k W → trB S N n sc op es = some i → PE X (.BoolOp op es pos) (TD G W (evE call i)) ∧ PW X (.BoolOp op es pos) (TB G W (evT call i))
  o : ∀ {X : Cx} {G : Gm} {sc : Scope} {call : Nat → List D → Mem → R D} {k : Nat} {W : WX} {o : Option Expr} {i : IEo}, Ctx S X G N sc call k W → trO S N n sc o = some i → PO X o (TOs G W (evO call i))
  ifs : ∀ {X : Cx} {G : Gm} {sc : Scope} {call : Nat → List D → Mem → R D} {k : Nat} {W : WX} {es : List Expr} {is : IEs}, Ctx S X G N sc call k W → trIfs S N n sc es = some is → PTs X es (TB G W (evC call is))
  cl : ∀ {X : Cx} {G : Gm} {sc : Scope} {call : Nat → List D → Mem → R D} {k : Nat} {W : WX} {x : Str} {p pos : Pos} {es : List Expr} {i : IE}, Ctx S X G N sc call k W → trCall S N n sc x es = some i → PE X (.Call (.Name x p) es [] pos) (TD G W (evE call i))
  rg : ∀ {X : Cx} {G : Gm} {sc : Scope} {call : Nat → List D → Mem → R D} {k : Nat} {W : WX} {x : Str} {p pos : Pos} {es : List Expr} {i : IE}, Ctx S X G N sc call k W → free S sc x = true → trRng S N n sc x es = some i → PE X (.Call (.Name x p) es [] pos) (TD G W (evE call i))
  s : ∀ {X : Cx} {G : Gm} {sc : Scope} {call : Nat → List D → Mem → R D} {k : Nat} {W : WX} {tg e : Expr} {i : Src × IEs}, Ctx S X G N sc call k W → trSrc S N n sc tg e = some i → PI X tg e (iS G W i.1 (evEs call i.2)) ∧ ∀ x, foldedSetIterable e X.env x = pure x
  sb : ∀ {X : Cx} {G : Gm} {sc : Scope} {call : Nat → List D → Mem → R D} {k : Nat} {W : WX} {tg e : Expr} {i : Src × IEs}, Ctx S X G N sc call k W → trSrcB S N n sc tg e = some i → PI X tg e (iS G W i.1 (evEs call i.2)) ∧ ∀ x, foldedSetIterable e X.env x = pure x
  g : ∀ {X : Cx} {G : Gm} {sc : Scope} {call : Nat → List D → Mem → R D} {k : Nat} {W : WX} {e : Expr} {t : ITg × List Nat}, Ctx S X G N sc call k W → trG S N n sc e = some t → PG X e (TGt G W t.2 fun d ρ M => evG call t.1 d ρ M)
  gs : ∀ {X : Cx} {G : Gm} {sc : Scope} {call : Nat → List D → Mem → R D} {k : Nat} {W : WX} {es : List Expr} {t : ITgs × List Nat}, Ctx S X G N sc call k W → trGs S N n sc es = some t → PGs X es (TGts G W t.2 fun ds ρ M => evGs call t.1 ds ρ M) ∧ (assignEach es X.env).findIdx? (·.1) = none ∧ (assignEach es X.env).length = t.1.len
section
variable {S : Sta} {X : Cx} {G : Gm} {N : List Str} {sc : Scope} {call : Nat → List D → Mem → R D} {k : Nat} {W : WX} {n : Nat}
theorem both {e : Expr} {f : Env → Mem → R D} (C : Ctx S X G N sc call k W) (h : PE X e (TD G W f)) (ht : ∀ whole, isTrue e X.env whole = (do let v ← whole; standAt e.pos; holding [v] (truthy v))) : PE X e (TD G W f) ∧ PT X e (TB G W (fT f)) := ⟨h, pdt_truth C.hK h ht⟩
/-! ### sub-cases -/
theorem snd_o (I : Snd S N n) (C : Ctx S X G N sc call k W) {o : Option Expr} {i : IEo} (h : trO S N (n + 1) sc o = some i) : PO X o (TOs G W (evO call i)) := by
  cases o with
  | none => cases h; exact pdo_no
  | some e =>
    have h : (trE S N n sc e).map IEo.yes = some i := h
    cases h1 : trE S N n sc e with
    | none => rw [h1] at h; cases h
    | some e' => rw [h1] at h; cases h; exact pdo_yes (I.e C h1).1
theorem snd_es (I : Snd S N n) (C : Ctx S X G N sc call k W) {es : List Expr} {is : IEs} (h : trEs S N (n + 1) sc es = some is) : PA X es (TAs G W (evEs call is)) ∧ is.len = es.length := by
  cases es with
  | nil => cases h; exact ⟨pda_nil, rfl⟩
  | cons e r =>
    simp only [trEs] at h
    cases h1 : trE S N n sc e with
    | none => rw [h1] at h; cases h
    | some e' =>
      rw [h1] at h
      simp only at h
      cases h2 : trEs S N n sc r with
      | none => rw [h2] at h; cases h
      | some r' =>
        rw [h2] at h
        cases h
        exact ⟨pda_cons (I.e C h1).1 (I.es C h2).1 (tr_star h1 _ _), by rw [List.length_cons, ← (I.es C h2).2]; rfl⟩
theorem fC_one {f : Env → Mem → R D} (ρ : Env) (M : Mem) : fT f ρ M = (f ρ M).bind fun d M1 => match truth M1 d with
    | some true => .ok true M1
    | some false => .ok false M1
    | none => .bad := by
  unfold fT
  refine bind_imp _ fun d M1 => ?_
  cases truth M1 d with
  | none => rfl
  | some b => cases b <;> rfl
theorem snd_ifs (I : Snd S N n) (C : Ctx S X G N sc call k W) {es : List Expr} {is : IEs} (h : trIfs S N (n + 1) sc es = some is) : PTs X es (TB G W (evC call is)) := by
  cases es with
  | nil =>
    cases h
    exact ⟨fun pins s σ H Q I ⟨π, M, ρ, he, hm, h⟩ => pts_nil.run pins s σ H Q I (h _ _ _ .refl hm rfl)⟩
  | cons e r =>
    cases r with
    | cons _ _ => cases h
    | nil =>
      simp only [trIfs] at h
      cases h1 : trE S N n sc e with
      | none => rw [h1] at h; cases h
      | some e' =>
        rw [h1] at h
        cases h
        refine ⟨fun pins s σ H Q J hw => (pts_one (I.e C h1).2).run pins s σ H Q J ?_⟩
        exact tx_eq (fun ρ M => (fC_one (f := evE call e') ρ M).symm) hw
theorem snd_b (I : Snd S N n) (C : Ctx S X G N sc call k W) {op : BoolOp} {es : List Expr} {i : IE} {pos : Pos} (h : trB S N (n + 1) sc op es = some i) : PE X (.BoolOp op es pos) (TD G W (evE call i)) ∧ PW X (.BoolOp op es pos) (TB G W (evT call i)) := by
  cases es with
  | nil => cases h
  | cons e r =>
    simp only [trB] at h
    cases h1 : trE S N n sc e with
    | none => rw [h1] at h; cases h
    | some e' =>
      rw [h1] at h
      cases r with
      | nil =>
        cases h
        obtain ⟨q1, q2⟩ := I.e C h1
        exact ⟨pe_one q1, by cases op with
          | And => exact pw_and1 q2
          | Or => exact pw_or1 q2⟩
      | cons e2 r =>
        simp only at h
        cases h2 : trB S N n sc op (e2 :: r) with
        | none => rw [h2] at h; cases h
        | some r' =>
          rw [h2] at h
          obtain ⟨q1, q2⟩ := I.e C h1
          obtain ⟨p1, p2⟩ := I.b (pos := pos) C h2
          cases op with
          | And => cases h; exact ⟨pd_and C.hK q1 p1, pdw_and q2 p2⟩
          | Or => cases h; exact ⟨pd_or C.hK q1 p1, pdw_or q2 p2⟩
theorem snd_gs (I : Snd S N n) (C : Ctx S X G N sc call k W) {es : List Expr} {t : ITgs × List Nat} (h : trGs S N (n + 1) sc es = some t) : PGs X es (TGts G W t.2 fun ds ρ M => evGs call t.1 ds ρ M) ∧ (assignEach es X.env).findIdx? (·.1) = none ∧ (assignEach es X.env).length = t.1.len := by
  cases es with
  | nil =>
    cases h
    refine ⟨?_, rfl, rfl⟩
    have := pgs_nilD (X := X) (G := G) (W := W)
    refine ⟨fun pins s σ H vs us Q I r ⟨π, M, ρ, ds, he, hm, rs, h⟩ => this.run pins s σ H vs us Q I r ⟨π, M, ρ, ds, he, hm, rs, ?_⟩⟩
    cases ds with
    | nil => exact h
    | cons _ _ => exact h
  | cons e r =>
    simp only [trGs] at h
    cases h1 : trG S N n sc e with
    | none => rw [h1] at h; cases h
    | some e' =>
      rw [h1] at h
      simp only at h
      cases h2 : trGs S N n sc r with
      | none => rw [h2] at h; cases h
      | some r' =>
        rw [h2] at h
        cases h
        have hs : assignEach (e :: r) X.env = (false, assign e X.env) :: assignEach r X.env := by
          cases e with
          | Starred _ _ => cases n <;> simp [trG] at h1
          | _ => rfl
        obtain ⟨q1, q2, q3⟩ := I.gs C h2
        refine ⟨?_, ?_, ?_⟩
        · have := pgs_consD (I.g C h1) q1 (by rw [hs]; rfl)
          refine ⟨fun pins s σ H vs us Q J rr ⟨π, M, ρ, ds, he, hm, rs, hh⟩ => this.run pins s σ H vs us Q J rr ⟨π, M, ρ, ds, he, hm, rs, ?_⟩⟩
          cases ds with
          | nil => exact hh
          | cons _ _ => exact hh
        · rw [hs, List.findIdx?_cons]
          simp [q2]
        · rw [hs, List.length_cons, q3]; rfl
theorem snd_g (I : Snd S N n) (C : Ctx S X G N sc call k W) {e : Expr} {t : ITg × List Nat} (h : trG S N (n + 1) sc e = some t) : PG X e (TGt G W t.2 fun d ρ M => evG call t.1 d ρ M) := by
  cases e with
  | Name x p =>
    simp only [trG] at h
    cases h1 : isLoc sc x with
    | false => rw [h1] at h; cases h
    | true =>
      rw [h1] at h
      simp only at h
      cases h2 : slot N x with
      | none => rw [h2] at h; cases h
      | some i =>
        rw [h2] at h
        cases h
        exact pg_nameD (by rw [C.hN]; exact C.nd) (by rw [C.hN]; exact slot_ok h2) (isLoc_ok C.rel h1) (isLoc_fn C h1)
  | Tuple es kk p =>
    simp only [trG] at h
    cases h1 : trGs S N n sc es with
    | none => rw [h1] at h; cases h
    | some ts =>
      rw [h1] at h
      cases h
      obtain ⟨q1, q2, q3⟩ := I.gs C h1
      have q1' : PGs X es (TGts G W ts.2 fun ds ρ M => match decide (ds.length = ts.1.len) with
          | true => evGs call ts.1 ds ρ M
          | false => .bad) := by
        refine ⟨fun pins s σ H vs us Q J rr ⟨π, M, ρ, ds, he, hm, rs, hh⟩ => q1.run pins s σ H vs us Q J rr ⟨π, M, ρ, ds, he, hm, rs, ?_⟩⟩
        have hh : pG G W ts.2 σ (match decide (ds.length = ts.1.len) with
          | true => evGs call ts.1 ds ρ M
          | false => .bad) π H Q := hh
        cases hd : decide (ds.length = ts.1.len) with
        | false => rw [hd] at hh; exact hh.elim
        | true => rw [hd] at hh; exact hh
      refine pg_tupD C.hK C.calm q1' q2 fun ds ρ M hb => ?_
      cases hd : decide (ds.length = ts.1.len) with
      | false => exact absurd (by simp only [hd]) hb
      | true => rw [q3]; exact (of_decide_eq_true hd).symm
  | Subscript o i p =>
    have hi : ∃ o' i', trE S N n sc o = some o' ∧ trE S N n sc i = some i' ∧ t = (.sub o' i', []) := by
      cases i <;> (
        simp only [trG] at h
        first
          | (cases h; done)
          | (cases h1 : trE S N n sc o with
             | none => rw [h1] at h; cases h
             | some o' =>
               rw [h1] at h
               simp only at h
               split at h
               · cases h; exact ⟨_, _, rfl, by assumption, rfl⟩
               · cases h))
    obtain ⟨o', i', h1, h2, rfl⟩ := hi
    exact pg_subD (I.e C h1).1 (I.e C h2).1 (tr_sub h2 _)
  | _ => cases h
end
end DL

/-! DL: expressions mean what their translations give: calls, what is walked -/
namespace DL
open PySem PySem.Spec PyProof.Rows L2
section
variable {S : Sta} {X : Cx} {G : Gm} {N : List Str} {sc : Scope} {call : Nat → List D → Mem → R D} {k : Nat} {W : WX} {n : Nat}
theorem trEs_cons {es : List Expr} {is : IEs} (h : trEs S N n sc es = some is) : (es = [] ∧ is = .nil) ∨ ∃ m e r e' r', n = m + 1 ∧ es = e :: r ∧ is = .cons e' r' ∧ trE S N m sc e = some e' ∧ trEs S N m sc r = some r' := by
  cases n with
  | zero => cases h
  | succ n =>
    cases es with
    | nil => cases h; exact .inl ⟨rfl, rfl⟩
    | cons e r =>
      simp only [trEs] at h
      cases h1 : trE S N n sc e with
      | none => rw [h1] at h; cases h
      | some e' =>
        rw [h1] at h
        simp only at h
        cases h2 : trEs S N n sc r with
        | none => rw [h2] at h; cases h
        | some r' => rw [h2] at h; cases h; exact .inr ⟨n, e, r, e', r', rfl, rfl, rfl, h1, h2⟩
theorem trEs_star {e : Expr} {r : List Expr} {is : IEs} (h : trEs S N n sc (e :: r) = some is) (env : PySem.Env) : starEach (e :: r) env = (false, eval e env) :: starEach r env ∧ ∃ m is', n = m + 1 ∧ trEs S N m sc r = some is' := by
  rcases trEs_cons h with ⟨z, _⟩ | ⟨m, e0, r0, e', r', rfl, h2, rfl, h3, h4⟩
  · cases z
  · cases h2; exact ⟨tr_star h3 _ _, m, r', rfl, h4⟩
theorem trEs_plain {e : Expr} {r : List Expr} {is : IEs} (h : trEs S N n sc (e :: r) = some is) (pos : Pos) (env : PySem.Env) : (backTo pos (starEach r env)).any (·.1) = false := by
  obtain ⟨_, m, is', _, h2⟩ := trEs_star h env
  exact trs_plain h2 pos env
theorem tyName_ok {y : Str} {T : String} (h : tyOfName y = some T) : bootBuiltins y = some (.type T) ∧ T ∈ tyAll := by
  unfold tyOfName at h
  split at h
  · cases h; rename_i q; rw [eq_of_beq q]; exact ⟨by decide +kernel, by decide +kernel⟩
  split at h
  · cases h; rename_i q; rw [eq_of_beq q]; exact ⟨by decide +kernel, by decide +kernel⟩
  split at h
  · cases h; rename_i q; rw [eq_of_beq q]; exact ⟨by decide +kernel, by decide +kernel⟩
  split at h
  · cases h; rename_i q; rw [eq_of_beq q]; exact ⟨by decide +kernel, by decide +kernel⟩
  split at h
  · cases h; rename_i q; rw [eq_of_beq q]; exact ⟨by decide +kernel, by decide +kernel⟩
  split at h
  · cases h; rename_i q; rw [eq_of_beq q]; exact ⟨by decide +kernel, by decide +kernel⟩
  · cases h
theorem tyName_str {y : Str} {T : String} (h : tyOfName y = some T) : y ≠ "__name__" ∧ (y == ("__debug__" : Str)) = false := by
  unfold tyOfName at h
  split at h
  · cases h; rename_i q; rw [eq_of_beq q]; exact ⟨by decide +kernel, by decide +kernel⟩
  split at h
  · cases h; rename_i q; rw [eq_of_beq q]; exact ⟨by decide +kernel, by decide +kernel⟩
  split at h
  · cases h; rename_i q; rw [eq_of_beq q]; exact ⟨by decide +kernel, by decide +kernel⟩
  split at h
  · cases h; rename_i q; rw [eq_of_beq q]; exact ⟨by decide +kernel, by decide +kernel⟩
  split at h
  · cases h; rename_i q; rw [eq_of_beq q]; exact ⟨by decide +kernel, by decide +kernel⟩
  split at h
  · cases h; rename_i q; rw [eq_of_beq q]; exact ⟨by decide +kernel, by decide +kernel⟩
  · cases h
theorem tyNames_ok (C : Ctx S X G N sc call k W) : ∀ {ts : List Expr} {l : List (Str × Pos × String)}, tyNames S sc ts = some l → ts = l.map (fun t => .Name t.1 t.2.1) ∧ (∀ b ∈ l.map (·.2.2), b ∈ tyAll) ∧ ∀ t ∈ l, Gl X t.1 ∧ X.mg t.1 = none ∧ bootBuiltins t.1 = some (.type t.2.2) ∧ t.1 ≠ "__name__" ∧ (t.1 == ("__debug__" : Str)) = false
  | [], l, h => by cases h; exact ⟨rfl, fun _ h => (nomatch h), fun _ h => (nomatch h)⟩
  | e :: r, l, h => by
    cases e with
    | Name x p =>
      simp only [tyNames] at h
      cases h1 : tyOfName x with
      | none => rw [h1] at h; cases h
      | some t =>
        rw [h1] at h
        simp only at h
        cases h2 : isGlo sc x && S.bl.contains x with
        | false => rw [h2] at h; cases h
        | true =>
          rw [h2] at h
          simp only at h
          obtain ⟨g1, g2⟩ := Bool.and_eq_true_iff.mp h2
          cases h3 : tyNames S sc r with
          | none => rw [h3] at h; cases h
          | some l' =>
            rw [h3] at h
            cases h
            obtain ⟨q1, q2, q3⟩ := tyNames_ok C h3
            refine ⟨by rw [q1]; simp, fun b hb => ?_, fun t ht => ?_⟩
            · rcases List.mem_cons.mp hb with rfl | hb
              · exact (tyName_ok h1).2
              · exact q2 b hb
            · rcases List.mem_cons.mp ht with rfl | ht
              · exact ⟨isGlo_ok C.rel g1, C.glo.bl x (by simpa [List.contains_iff_mem] using g2), (tyName_ok h1).1, (tyName_str h1).1, (tyName_str h1).2⟩
              · exact q3 t ht
    | _ => cases h
theorem snd_rg (I : ∀ m, m ≤ n → Snd S N m) (C : Ctx S X G N sc call k W) {x : Str} {p pos : Pos} {es : List Expr} {i : IE} (hf : free S sc x = true) (h : trRng S N (n + 1) sc x es = some i) : PE X (.Call (.Name x p) es [] pos) (TD G W (evE call i)) := by
  cases es with
  | nil => cases h
  | cons e r =>
    cases r with
    | cons _ _ => cases h
    | nil =>
      cases e with
      | Call f as kws p2 =>
        cases kws with
        | cons _ _ => cases h
        | nil =>
          cases f with
          | Name y p3 =>
            simp only [trRng] at h
            cases h1 : y == ("range" : Str) && free S sc y with
            | false => rw [h1] at h; cases h
            | true =>
              rw [h1] at h
              simp only at h
              obtain ⟨h1, h2⟩ := Bool.and_eq_true_iff.mp h1
              have := eq_of_beq h1
              subst this
              obtain ⟨g1, g2, _, _⟩ := free_ok C h2
              obtain ⟨f1, f2, _, _⟩ := free_ok C hf
              cases h3 : as.length == 1 || as.length == 2 with
              | false => rw [h3] at h; cases h
              | true =>
                rw [h3] at h
                simp only at h
                have h4 : ∃ ies, trEs S N n sc as = some ies ∧ ((x = "list" ∧ i = .prim .lrange ies) ∨ (x = "tuple" ∧ i = .prim .trange ies)) := by
                  cases h5 : trEs S N n sc as with
                  | none =>
                    rw [h5] at h
                    split at h
                    · cases h
                    · split at h <;> cases h
                  | some ies =>
                    rw [h5] at h
                    refine ⟨ies, rfl, ?_⟩
                    split at h
                    · rename_i q; cases h; exact .inl ⟨eq_of_beq q, rfl⟩
                    · split at h
                      · rename_i q; cases h; exact .inr ⟨eq_of_beq q, rfl⟩
                      · cases h
                obtain ⟨ies, h5, h6⟩ := h4
                rcases trEs_cons h5 with ⟨z, _⟩ | ⟨m, a, r, a', r', hn, rfl, rfl, ha, hr⟩
                · subst z; cases h3
                have hst := (trEs_star h5 X.env).1
                subst hn
                have A1 := ((I m (by omega)).e C ha).1
                rcases trEs_cons hr with ⟨rfl, rfl⟩ | ⟨m2, b, r2, b', r2', rfl, rfl, rfl, hb, hr2⟩
                · rcases h6 with ⟨rfl, rfl⟩ | ⟨rfl, rfl⟩
                  · exact pd_lr1 C.calm f1 f2 g1 g2 A1 hst
                  · exact pd_tr1 C.calm f1 f2 g1 g2 A1 hst
                · have A2 := ((I m2 (by omega)).e C hb).1
                  have hst2 := (trEs_star hr X.env).1
                  cases r2 with
                  | cons _ _ => cases h3
                  | nil =>
                    rcases trEs_cons hr2 with ⟨_, rfl⟩ | ⟨_, _, _, _, _, _, z, _⟩
                    · rcases h6 with ⟨rfl, rfl⟩ | ⟨rfl, rfl⟩
                      · exact pd_lr2 C.calm f1 f2 g1 g2 A1 A2 hst hst2
                      · exact pd_tr2 C.calm f1 f2 g1 g2 A1 A2 hst hst2
                    · cases z
          | _ => cases h
      | _ => cases h
theorem pi_iS {tg e : Expr} {s : Src} {f g : Env → Mem → R (List D)} (h : PI X tg e (iS G W s f)) (e1 : f = g) : PI X tg e (iS G W s g) := e1 ▸ h
theorem snd_sb (I : ∀ m, m ≤ n → Snd S N m) (C : Ctx S X G N sc call k W) {tg e : Expr} {i : Src × IEs} (h : trSrcB S N (n + 1) sc tg e = some i) : PI X tg e (iS G W i.1 (evEs call i.2)) ∧ ∀ x, foldedSetIterable e X.env x = pure x := by
  cases e with
  | Call f as kws pos =>
    cases kws with
    | cons _ _ => cases h
    | nil =>
      cases f with
      | Name r p =>
        refine ⟨?_, fun _ => rfl⟩
        simp only [trSrcB] at h
        cases h1 : free S sc r with
        | false => rw [h1] at h; cases h
        | true =>
          rw [h1] at h
          simp only at h
          obtain ⟨g1, g2, _, _⟩ := free_ok C h1
          cases h2 : r == ("range" : Str) with
          | true =>
            rw [h2] at h
            simp only at h
            have := eq_of_beq h2
            subst this
            have h5 : ∃ ies, trEs S N n sc as = some ies ∧ i = (.rng, ies) ∧ (as.length = 1 ∨ as.length = 2 ∨ as.length = 3) := by
              split at h
              · cases h5 : trEs S N n sc [_] with
                | none => rw [h5] at h; cases h
                | some ies => rw [h5] at h; cases h; exact ⟨_, rfl, rfl, .inl rfl⟩
              · cases h5 : trEs S N n sc [_, _] with
                | none => rw [h5] at h; cases h
                | some ies => rw [h5] at h; cases h; exact ⟨_, rfl, rfl, .inr (.inl rfl)⟩
              · cases h5 : trEs S N n sc [_, _, _] with
                | none => rw [h5] at h; cases h
                | some ies => rw [h5] at h; cases h; exact ⟨_, rfl, rfl, .inr (.inr rfl)⟩
              · cases h
            obtain ⟨ies, h5, rfl, hl⟩ := h5
            have A := ((I n (Nat.le_refl n)).es C h5).1
            rcases trEs_cons h5 with ⟨z, _⟩ | ⟨m, a, r, a', r', rfl, rfl, rfl, ha, hr⟩
            · subst z; simp at hl
            have hst := (trEs_star h5 X.env).1
            have hpl := trEs_plain h5 pos X.env
            rcases trEs_cons hr with ⟨rfl, rfl⟩ | ⟨m2, b, r2, b', r2', rfl, rfl, rfl, hb, hr2⟩
            · exact pi_rng1D g1 g2 A hst
            · have hst2 := (trEs_star hr X.env).1
              rcases trEs_cons hr2 with ⟨rfl, rfl⟩ | ⟨m3, c, r3, c', r3', rfl, rfl, rfl, hc, hr3⟩
              · exact pi_rng2D g1 g2 A (by rw [hst, hst2]; rfl) hst2
              · rcases trEs_cons hr3 with ⟨rfl, rfl⟩ | ⟨m4, d, r4, d', r4', rfl, rfl, rfl, hd, hr4⟩
                · exact pi_rng3D g1 g2 A hst hpl
                · simp only [List.length_cons] at hl; omega
          | false =>
            rw [h2] at h
            simp only at h
            cases tg with
            | Tuple el kk tp =>
              simp only at h
              cases h3 : r == ("enumerate" : Str) with
              | true =>
                rw [h3] at h
                simp only at h
                have := eq_of_beq h3
                subst this
                split at h
                · cases h5 : trEs S N n sc [_] with
                  | none => rw [h5] at h; cases h
                  | some ies =>
                    rw [h5] at h
                    cases h
                    have A := ((I n (Nat.le_refl n)).es C h5).1
                    rcases trEs_cons h5 with ⟨z, _⟩ | ⟨m, a, r, a', r', rfl, e1, rfl, ha, hr⟩
                    · cases z
                    have hst := (trEs_star h5 X.env).1
                    cases e1
                    rcases trEs_cons hr with ⟨_, rfl⟩ | ⟨m2, b, r2, b', r2', rfl, z, rfl, hb, hr2⟩
                    · exact pi_enumD C.hK g1 g2 A hst
                    · cases z
                · cases h
              | false =>
                rw [h3] at h
                simp only at h
                cases h4 : r == ("zip" : Str) with
                | false => rw [h4] at h; cases h
                | true =>
                  rw [h4] at h
                  simp only at h
                  have := eq_of_beq h4
                  subst this
                  split at h
                  · cases h5 : trEs S N n sc [_, _] with
                    | none => rw [h5] at h; cases h
                    | some ies =>
                      rw [h5] at h
                      cases h
                      have A := ((I n (Nat.le_refl n)).es C h5).1
                      rcases trEs_cons h5 with ⟨z, _⟩ | ⟨m, a, r, a', r', rfl, e1, rfl, ha, hr⟩
                      · cases z
                      have hst := (trEs_star h5 X.env).1
                      have hpl := trEs_plain h5 pos X.env
                      cases e1
                      rcases trEs_cons hr with ⟨z, _⟩ | ⟨m2, b, r2, b', r2', rfl, e2, rfl, hb, hr2⟩
                      · cases z
                      cases e2
                      rcases trEs_cons hr2 with ⟨_, rfl⟩ | ⟨m3, c, r3, c', r3', rfl, z, rfl, hc, hr3⟩
                      · exact pi_zipD C.hK g1 g2 A hst hpl
                      · cases z
                  · cases h
            | _ => cases h
      | _ => cases h
  | _ => cases h
theorem snd_s (I : Snd S N n) (C : Ctx S X G N sc call k W) {tg e : Expr} {i : Src × IEs} (h : trSrc S N (n + 1) sc tg e = some i) : PI X tg e (iS G W i.1 (evEs call i.2)) ∧ ∀ x, foldedSetIterable e X.env x = pure x := by
  simp only [trSrc] at h
  cases h1 : trSrcB S N n sc tg e with
  | some r => rw [h1] at h; cases h; exact I.sb C h1
  | none =>
    rw [h1] at h
    simp only at h
    cases h2 : trE S N n sc e with
    | none => rw [h2] at h; cases h
    | some e' =>
      rw [h2] at h
      cases h
      exact ⟨pi_seqD C.hK (I.e C h2).1, tr_folded h2 _⟩
end
end DL

/-! DL: expressions mean what their translations give -/
namespace DL
open PySem PySem.Spec PyProof.Rows L2
section
variable {S : Sta} {X : Cx} {G : Gm} {N : List Str} {sc : Scope} {call : Nat → List D → Mem → R D} {k : Nat} {W : WX} {n : Nat}
theorem ite_or' {α : Type} {c : Bool} {a b r : α} (h : (if c = true then a else b) = r) : (c = true ∧ a = r) ∨ (c = false ∧ b = r) := by
  cases c with
  | true => exact .inl ⟨rfl, h⟩
  | false => exact .inr ⟨rfl, h⟩
theorem prim_ok (C : Ctx S X G N sc call k W) {x : Str} {m : Nat} {p : Prim} (h : primOf x m = some p) : m ≠ 0 ∧ ((∃ id, bootBuiltins x = some (.builtin id) ∧ CallR X (.builtin id) (rPD G p)) ∨ ∃ id, bootBuiltins x = some (.type id) ∧ CallR X (.type id) (rPD G p)) := by
  have hn : ∀ {a : Str} {j : Nat}, (x == a && m == j) = true → x = a ∧ m = j := fun z => by
    obtain ⟨z1, z2⟩ := Bool.and_eq_true_iff.mp z
    exact ⟨eq_of_beq z1, eq_of_beq z2⟩
  unfold primOf at h
  rcases ite_or' h with ⟨q, h⟩ | ⟨_, h⟩
  · cases h; obtain ⟨rfl, rfl⟩ := hn q; exact ⟨by decide, .inl ⟨_, by decide +kernel, p_len C.hK⟩⟩
  rcases ite_or' h with ⟨q, h⟩ | ⟨_, h⟩
  · cases h; obtain ⟨rfl, rfl⟩ := hn q; exact ⟨by decide, .inl ⟨_, by decide +kernel, p_abs⟩⟩
  rcases ite_or' h with ⟨q, h⟩ | ⟨_, h⟩
  · cases h; obtain ⟨rfl, rfl⟩ := hn q; exact ⟨by decide, .inl ⟨_, by decide +kernel, p_min2 C.calm⟩⟩
  rcases ite_or' h with ⟨q, h⟩ | ⟨_, h⟩
  · cases h; obtain ⟨rfl, rfl⟩ := hn q; exact ⟨by decide, .inl ⟨_, by decide +kernel, p_max2 C.calm⟩⟩
  rcases ite_or' h with ⟨q, h⟩ | ⟨_, h⟩
  · cases h; obtain ⟨rfl, rfl⟩ := hn q; exact ⟨by decide, .inr ⟨_, by decide +kernel, p_int1⟩⟩
  rcases ite_or' h with ⟨q, h⟩ | ⟨_, h⟩
  · cases h; obtain ⟨rfl, rfl⟩ := hn q; exact ⟨by decide, .inr ⟨_, by decide +kernel, p_tuple C.hK⟩⟩
  rcases ite_or' h with ⟨q, h⟩ | ⟨_, h⟩
  · cases h; obtain ⟨rfl, rfl⟩ := hn q; exact ⟨by decide, .inr ⟨_, by decide +kernel, p_list C.hK⟩⟩
  rcases ite_or' h with ⟨q, h⟩ | ⟨_, h⟩
  · cases h; obtain ⟨rfl, rfl⟩ := hn q; exact ⟨by decide, .inl ⟨_, by decide +kernel, p_all C.hK C.calm⟩⟩
  rcases ite_or' h with ⟨q, h⟩ | ⟨_, h⟩
  · cases h; obtain ⟨rfl, rfl⟩ := hn q; exact ⟨by decide, .inl ⟨_, by decide +kernel, p_any C.hK C.calm⟩⟩
  rcases ite_or' h with ⟨q, h⟩ | ⟨_, h⟩
  · cases h; obtain ⟨rfl, rfl⟩ := hn q; exact ⟨by decide, .inl ⟨_, by decide +kernel, p_sum C.hK C.calm⟩⟩
  rcases ite_or' h with ⟨q, h⟩ | ⟨_, h⟩
  · cases h; obtain ⟨rfl, rfl⟩ := hn q; exact ⟨by decide, .inl ⟨_, by decide +kernel, p_minl C.hK C.calm⟩⟩
  rcases ite_or' h with ⟨q, h⟩ | ⟨_, h⟩
  · cases h; obtain ⟨rfl, rfl⟩ := hn q; exact ⟨by decide, .inl ⟨_, by decide +kernel, p_maxl C.hK C.calm⟩⟩
  · cases h
theorem snd_cl (I : ∀ m, m ≤ n → Snd S N m) (C : Ctx S X G N sc call k W) {x : Str} {p pos : Pos} {es : List Expr} {i : IE} (h : trCall S N (n + 1) sc x es = some i) : PE X (.Call (.Name x p) es [] pos) (TD G W (evE call i)) := by
  have In := I n (Nat.le_refl n)
  simp only [trCall] at h
  cases h1 : isGlo sc x && okName x with
  | false => rw [h1] at h; cases h
  | true =>
    rw [h1] at h
    simp only at h
    obtain ⟨g1, g2⟩ := Bool.and_eq_true_iff.mp h1
    have hg := isGlo_ok C.rel g1
    obtain ⟨hdb, _⟩ := okName_ok g2
    cases h2 : S.gv.lookup x with
    | some v =>
      rw [h2] at h
      cases v with
      | fn g m =>
        simp only at h
        cases h3 : es.length == m with
        | false => rw [h3] at h; cases h
        | true =>
          rw [h3] at h
          have h3 := eq_of_beq h3
          cases h4 : trEs S N n sc es with
          | none => rw [h4] at h; cases h
          | some is =>
            rw [h4] at h
            cases h
            obtain ⟨f1, f2, fd, ps, f3, f4⟩ := C.glo.fn _ _ _ h2
            obtain ⟨A1, A2⟩ := In.es C h4
            cases es with
            | nil =>
              rcases trEs_cons h4 with ⟨_, rfl⟩ | ⟨_, _, _, _, _, _, z, _⟩
              · exact pd_call0 C.tk f3 C.room hg f1 f2 f4 h3.symm hdb
              · cases z
            | cons e r => exact pd_call C.tk f3 C.room hg f1 f2 f4 A1 (fun ρ M ds M' e => by rw [evEs_len e, A2, h3]) hdb (trEs_star h4 _).1 (trEs_plain h4 _ _)
      | cst d => cases h
      | exc c => cases h
      | err kk hh ret =>
        simp only at h
        cases es with
        | nil => cases h
        | cons l r =>
          cases r with
          | cons _ _ => cases h
          | nil =>
            cases l with
            | Lambda pa body scope lp =>
              simp only at h
              cases h3 : (S.lam && !sc.isGenerator) && (lamP pa && LamX.lamSB sc scope) with
              | false => rw [h3] at h; cases h
              | true =>
                rw [h3] at h
                simp only [Bool.and_eq_true, Bool.not_eq_true'] at h3
                cases h4 : trE S N n { scope with isGenerator := true } body with
                | none => simp only [h4] at h; cases h
                | some b =>
                  simp only [h4] at h
                  cases h
                  have hl := LamX.lamS_by h3.2.2
                  exact C.glo.err _ _ _ _ h2 X rfl rfl rfl rfl rfl (C.lam h3.1.1 h3.1.2).1 hg W pa body scope p lp pos (evE call b) h3.2.1 (lamS_ok C hl) (C.lam h3.1.1 h3.1.2).2 fun A outer s H E f0 c' hr => (In.e (lam_ctx C hl A outer s H E f0 c' hr) h4).1
            | _ => cases h
    | none =>
      rw [h2] at h
      simp only at h
      cases h3 : free S sc x with
      | false => rw [h3] at h; cases h
      | true =>
        rw [h3] at h
        simp only at h
        obtain ⟨_, hm, hn, _⟩ := free_ok C h3
        cases h4 : x == ("isinstance" : Str) with
        | true =>
          rw [h4] at h
          simp only at h
          have := eq_of_beq h4
          subst this
          cases es with
          | nil => cases h
          | cons e r =>
            cases r with
            | nil => cases h
            | cons t r =>
              cases r with
              | cons _ _ => cases h
              | nil =>
                simp only at h
                cases h5 : trE S N n sc e with
                | none => rw [h5] at h; cases h
                | some e' =>
                  rw [h5] at h
                  simp only at h
                  have A1 := (In.e C h5).1
                  cases t with
                  | Name y p2 =>
                    simp only at h
                    cases h6 : tyOfName y with
                    | none => rw [h6] at h; cases h
                    | some T =>
                      rw [h6] at h
                      simp only at h
                      cases h7 : free S sc y with
                      | false => rw [h7] at h; cases h
                      | true =>
                        rw [h7] at h
                        cases h
                        obtain ⟨q1, q2, q3, q4⟩ := free_ok C h7
                        exact pd_is1 C.hK (tyName_ok h6).2 hg hm q1 q2 (tyName_ok h6).1 q3 q4 A1 (tr_star h5 _ _)
                  | Tuple ts kk p2 =>
                    simp only at h
                    cases h6 : tyNames S sc ts with
                    | none => rw [h6] at h; cases h
                    | some l =>
                      rw [h6] at h
                      simp only at h
                      cases h7 : decide (l.length ≤ 100) with
                      | false => rw [h7] at h; cases h
                      | true =>
                        rw [h7] at h
                        cases h
                        obtain ⟨rfl, q2, q3⟩ := tyNames_ok C h6
                        exact pd_isN C.hK q2 hg hm q3 (of_decide_eq_true h7) A1 (tr_star h5 _ _)
                  | _ => cases h
        | false =>
          rw [h4] at h
          simp only at h
          cases h5 : trRng S N n sc x es with
          | some j => rw [h5] at h; cases h; exact In.rg C h3 h5
          | none =>
            rw [h5] at h
            simp only at h
            cases h6 : primOf x es.length with
            | none => rw [h6] at h; cases h
            | some pr =>
              rw [h6] at h
              simp only at h
              cases h7 : trEs S N n sc es with
              | none => rw [h7] at h; cases h
              | some is =>
                rw [h7] at h
                cases h
                obtain ⟨hz, hp⟩ := prim_ok C h6
                cases es with
                | nil => exact absurd rfl hz
                | cons e r =>
                  rcases hp with ⟨id, b1, b2⟩ | ⟨id, b1, b2⟩
                  · exact pd_prim b2 hg hm b1 (In.es C h7).1 hn hdb (trEs_star h7 _).1 (trEs_plain h7 _ _)
                  · exact pd_primT b2 hg hm b1 (In.es C h7).1 hn hdb (trEs_star h7 _).1 (trEs_plain h7 _ _)
theorem op_len {es : List Expr} {is : IEs} (e : is.len = es.length) (hd : es.length ≤ 1000000) : ∀ ρ M ds M', evEs call is ρ M = .ok ds M' → ds.length ≤ sizeLine := fun ρ M ds M' h => by
  rw [evEs_len h, e, sizeLine_eq]; omega
theorem snd_comp (I : ∀ m, m ≤ n → Snd S N m) (C : Ctx S X G N sc call k W) {elt : Expr} {tg iter : Expr} {ifs : List Expr} {scope : Scope} {se : Src × IEs} {t : ITg × List Nat} {ifs' : IEs} {e' : IE} (hb : blkC N sc scope (ownOf N scope.names) = true)
    (h1 : trSrc S N n sc tg iter = some se) (h2 : trG S N n (mkS sc scope) tg = some t) (h3 : (t.2.all fun i => (((ownOf N scope.names).map (·.2)).contains i)) = true) (h4 : trIfs S N n (mkS sc scope) ifs = some ifs') (h5 : trE S N n (mkS sc scope) elt = some e') {pos : Pos} :
    PE X (.ListComp elt [⟨tg, iter, ifs, 0⟩] scope pos) (TD G W (evE call (.comp ((ownOf N scope.names).map (·.2)) se.1 se.2 t.1 ifs' e'))) := by
  have In := I n (Nat.le_refl n)
  have B := blkOk_by hb
  obtain ⟨q1, q2⟩ := In.s C h1
  refine pd_lc (t := fun d ρ M => evG call t.1 d ρ M) (tt := evC call ifs') (te := evE call e') C.calm (by rw [C.hN]; exact C.nd) q1 (blk_ok C B) (fun s H c cl fp => In.g (blk_ctx C B s H c cl fp) h2) (fun s H c cl fp => In.ifs (blk_ctx C B s H c cl fp) h4) (fun s H c cl fp => (In.e (blk_ctx C B s H c cl fp) h5).1) q2 fun i hi => ?_
  have := List.all_eq_true.mp h3 i hi
  simpa [List.contains_iff_mem] using this
end
end DL

/-! DL: expressions mean what their translations give -/
namespace DL
open PySem PySem.Spec PyProof.Rows L2
section
variable {S : Sta} {X : Cx} {G : Gm} {N : List Str} {sc : Scope} {call : Nat → List D → Mem → R D} {k : Nat} {W : WX} {n : Nat}
theorem obnd {α β : Type} {o : Option α} {f : α → Option β} {b : β} (h : o.bind f = some b) : ∃ a, o = some a ∧ f a = some b := by
  cases o with
  | none => cases h
  | some a => exact ⟨a, rfl, h⟩
theorem omap {α β : Type} {o : Option α} {f : α → β} {b : β} (h : o.map f = some b) : ∃ a, o = some a ∧ f a = b := by
  cases o with
  | none => cases h
  | some a => cases h; exact ⟨a, rfl, rfl⟩
theorem snd_name (C : Ctx S X G N sc call k W) {x : Str} {p : Pos} {i : IE} (h : trE S N (n + 1) sc (.Name x p) = some i) : PE X (.Name x p) (TD G W (evE call i)) := by
  simp only [trE] at h
  cases h1 : isVis sc x && okName x with
  | true =>
    rw [h1] at h
    obtain ⟨g1, g2⟩ := Bool.and_eq_true_iff.mp h1
    obtain ⟨j, h2, rfl⟩ := omap h
    exact pd_var (by rw [C.hN]; exact slot_ok h2) (isVis_ok C.rel g1) (okName_ok g2).1 (okName_ok g2).2
  | false =>
    rw [h1] at h
    simp only at h
    cases h2 : isGlo sc x && okName x with
    | false => rw [h2] at h; cases h
    | true =>
      rw [h2] at h
      simp only at h
      obtain ⟨g1, g2⟩ := Bool.and_eq_true_iff.mp h2
      cases h3 : S.gv.lookup x with
      | none => rw [h3] at h; cases h
      | some v =>
        rw [h3] at h
        cases v with
        | cst d =>
          cases h
          obtain ⟨u, v, q1, q2, q3⟩ := C.glo.cst _ _ h3
          exact pd_glob (isGlo_ok C.rel g1) q1 q2 q3 (okName_ok g2).1
        | _ => cases h
theorem snd_const {c : Const} {j : Nat} {p : Pos} {i : IE} (h : trE S N (n + 1) sc (.Constant c j p) = some i) : PE X (.Constant c j p) (TD G W (evE call i)) := by
  cases c with
  | int z => cases h; exact pd_int
  | bool z => cases h; exact pd_bl
  | none => cases h; exact pd_non
  | str x =>
    simp only [trE] at h
    cases h1 : PyData.strOk x && decide (x.length ≤ 1000000) with
    | false => rw [h1] at h; cases h
    | true =>
      rw [h1] at h
      cases h
      obtain ⟨g1, g2⟩ := Bool.and_eq_true_iff.mp h1
      exact pd_str g1 (by have := of_decide_eq_true g2; rw [sizeLine_eq]; omega)
  | _ => cases h
theorem snd_seq (I : Snd S N n) (C : Ctx S X G N sc call k W) {es : List Expr} {i : IE} : (∀ {j : Nat} {p : Pos}, trE S N (n + 1) sc (.Tuple es j p) = some i → PE X (.Tuple es j p) (TD G W (evE call i))) ∧ ∀ {p : Pos}, trE S N (n + 1) sc (.List es p) = some i → PE X (.List es p) (TD G W (evE call i)) := by
  refine ⟨fun {j p} h => ?_, fun {p} h => ?_⟩
  all_goals
    simp only [trE] at h
    cases h1 : decide (es.length ≤ 1000000) with
    | false => rw [h1] at h; cases h
    | true =>
      rw [h1] at h
      obtain ⟨is, h2, rfl⟩ := omap h
      obtain ⟨A1, A2⟩ := I.es C h2
      first
        | exact pd_tup A1 (op_len A2 (of_decide_eq_true h1))
        | exact pd_lst A1 (op_len A2 (of_decide_eq_true h1))
theorem snd_un (I : Snd S N n) (C : Ctx S X G N sc call k W) {o : UnaryOp} {a : Expr} {i : IE} {p : Pos} (h : trE S N (n + 1) sc (.UnaryOp o a p) = some i) : PE X (.UnaryOp o a p) (TD G W (evE call i)) ∧ PT X (.UnaryOp o a p) (TB G W (evT call i)) := by
  cases o with
  | Not =>
    simp only [trE] at h
    obtain ⟨a', h2, rfl⟩ := omap h
    obtain ⟨A1, A2⟩ := I.e C h2
    exact ⟨pd_not C.hK A1, pdt_not A2⟩
  | USub =>
    simp only [trE] at h
    obtain ⟨a', h2, rfl⟩ := omap h
    exact both C (pd_neg (I.e C h2).1) fun _ => rfl
  | _ => cases h
theorem snd_bin (I : Snd S N n) (C : Ctx S X G N sc call k W) {o : Operator} {a b : Expr} {i : IE} {p : Pos} (h : trE S N (n + 1) sc (.BinOp a o b p) = some i) : PE X (.BinOp a o b p) (TD G W (evE call i)) := by
  simp only [trE] at h
  obtain ⟨o', h1, h⟩ := obnd h
  obtain ⟨a', h2, h⟩ := obnd h
  obtain ⟨b', h3, h⟩ := obnd h
  cases h
  have := bopOf_ok h1
  subst this
  exact pd_op (op_bin C.hK o') (I.e C h2).1 (I.e C h3).1
theorem snd_cmp (I : Snd S N n) (C : Ctx S X G N sc call k W) {ops : List CmpOp} {a : Expr} {bs : List Expr} {i : IE} {p : Pos} (h : trE S N (n + 1) sc (.Compare a ops bs p) = some i) : PE X (.Compare a ops bs p) (TD G W (evE call i)) ∧ PT X (.Compare a ops bs p) (TB G W (evT call i)) := by
  cases ops with
  | nil => cases h
  | cons o ops =>
    cases ops with
    | nil =>
      cases bs with
      | nil => cases h
      | cons b bs =>
        cases bs with
        | cons _ _ => cases h
        | nil =>
          simp only [trE] at h
          obtain ⟨o', h1, h⟩ := obnd h
          obtain ⟨a', h2, h⟩ := obnd h
          obtain ⟨b', h3, h⟩ := obnd h
          cases h
          have := copOf_ok h1
          subst this
          exact ⟨pd_cmp (op_cmp C.hK C.un o') (I.e C h2).1 (I.e C h3).1 (tr_mark h3 _), pdt_cmp C.hK C.un (I.e C h2).1 (I.e C h3).1 (tr_mark h3 _)⟩
    | cons q ops =>
      cases ops with
      | cons _ _ => cases h
      | nil =>
        cases bs with
        | nil => cases h
        | cons b bs =>
          cases bs with
          | nil => cases h
          | cons c bs =>
            cases bs with
            | cons _ _ => cases h
            | nil =>
              simp only [trE] at h
              obtain ⟨o', h1, h⟩ := obnd h
              obtain ⟨q', h1', h⟩ := obnd h
              obtain ⟨a', h2, h⟩ := obnd h
              obtain ⟨b', h3, h⟩ := obnd h
              obtain ⟨c', h4, h⟩ := obnd h
              cases h
              have := copOf_ok h1
              subst this
              have := copOf_ok h1'
              subst this
              exact ⟨pd_cmp2 C.hK C.un (I.e C h2).1 (I.e C h3).1 (I.e C h4).1 (tr_mark h4 _), pdt_cmp2 C.hK C.un (I.e C h2).1 (I.e C h3).1 (I.e C h4).1 (tr_mark h4 _)⟩
theorem snd_if (I : Snd S N n) (C : Ctx S X G N sc call k W) {c a b : Expr} {i : IE} {p : Pos} (h : trE S N (n + 1) sc (.IfExp c a b p) = some i) : PE X (.IfExp c a b p) (TD G W (evE call i)) ∧ PT X (.IfExp c a b p) (TB G W (evT call i)) := by
  simp only [trE] at h
  obtain ⟨c', h1, h⟩ := obnd h
  obtain ⟨a', h2, h⟩ := obnd h
  obtain ⟨b', h3, h⟩ := obnd h
  cases h
  exact ⟨pd_if (I.e C h1).2 (I.e C h2).1 (I.e C h3).1, pdt_if (I.e C h1).2 (I.e C h2).2 (I.e C h3).2⟩
theorem snd_sub (I : Snd S N n) (C : Ctx S X G N sc call k W) {a b : Expr} {i : IE} {p : Pos} (h : trE S N (n + 1) sc (.Subscript a b p) = some i) : PE X (.Subscript a b p) (TD G W (evE call i)) := by
  cases b with
  | Slice lo hi st p2 =>
    cases st with
    | some _ => cases h
    | none =>
      simp only [trE] at h
      obtain ⟨a', h1, h⟩ := obnd h
      obtain ⟨l', h2, h⟩ := obnd h
      obtain ⟨u', h3, h⟩ := obnd h
      cases h
      exact pd_slc C.hK (I.e C h1).1 (I.o C h2) (I.o C h3)
  | _ =>
    simp only [trE] at h
    obtain ⟨a', h1, h⟩ := obnd h
    obtain ⟨b', h2, h⟩ := obnd h
    cases h
    exact pd_idx C.hK (I.e C h1).1 (I.e C h2).1 (tr_plain h2)
theorem snd_call (I : Snd S N n) (C : Ctx S X G N sc call k W) {f : Expr} {es : List Expr} {kws : List Keyword} {i : IE} {pos : Pos} (h : trE S N (n + 1) sc (.Call f es kws pos) = some i) : PE X (.Call f es kws pos) (TD G W (evE call i)) := by
  cases kws with
  | cons _ _ => cases h
  | nil =>
    cases f with
    | Name x p => exact I.cl C h
    | Attribute o m apos =>
      cases es with
      | nil => cases h
      | cons a es =>
        cases es with
        | cons _ _ => cases h
        | nil =>
          simp only [trE] at h
          cases h1 : apos.endLine == pos.line with
          | false => rw [h1] at h; cases h
          | true =>
            rw [h1] at h
            simp only at h
            cases o with
            | Name y py =>
              simp only at h
              obtain ⟨o', h2, h⟩ := obnd h
              obtain ⟨a', h3, h⟩ := obnd h
              rcases ite_or' h with ⟨q, h⟩ | ⟨_, h⟩
              · have := eq_of_beq q
                subst this
                cases h
                exact pd_mth F.slot_list_append rfl m_append (I.e C h2).1 (I.e C h3).1 rfl (tr_star h3 _ _) h1
              · rcases ite_or' h with ⟨q, h⟩ | ⟨_, h⟩
                · have := eq_of_beq q
                  subst this
                  cases h
                  exact pd_mth F.slot_list_extend rfl m_extend (I.e C h2).1 (I.e C h3).1 rfl (tr_star h3 _ _) h1
                · cases h
            | _ => cases h
    | _ => cases h
theorem snd_lc (I : ∀ m, m ≤ n → Snd S N m) (C : Ctx S X G N sc call k W) {elt : Expr} {gens : List Comprehension} {scope : Scope} {i : IE} {pos : Pos} (h : trE S N (n + 1) sc (.ListComp elt gens scope pos) = some i) : PE X (.ListComp elt gens scope pos) (TD G W (evE call i)) := by
  cases gens with
  | nil => cases h
  | cons g gens =>
    cases gens with
    | cons _ _ => cases h
    | nil =>
      obtain ⟨tg, iter, ifs, a⟩ := g
      simp only [trE] at h
      cases h1 : a == 0 && blkC N sc scope (ownOf N scope.names) with
      | false => rw [h1] at h; cases h
      | true =>
        rw [h1] at h
        simp only at h
        obtain ⟨g1, g2⟩ := Bool.and_eq_true_iff.mp h1
        have := eq_of_beq g1
        subst this
        obtain ⟨se, h2, h⟩ := obnd h
        obtain ⟨t, h3, h⟩ := obnd h
        cases h4 : t.2.all fun i => (((ownOf N scope.names).map (·.2)).contains i) with
        | false => rw [h4] at h; cases h
        | true =>
          rw [h4] at h
          simp only at h
          obtain ⟨ifs', h5, h⟩ := obnd h
          obtain ⟨e', h6, h⟩ := obnd h
          cases h
          exact snd_comp I C g2 h2 h3 h4 h5 h6
theorem snd_e (I : ∀ m, m ≤ n → Snd S N m) (C : Ctx S X G N sc call k W) {e : Expr} {i : IE} (h : trE S N (n + 1) sc e = some i) : PE X e (TD G W (evE call i)) ∧ PT X e (TB G W (evT call i)) := by
  have In := I n (Nat.le_refl n)
  cases e with
  | Name x p => exact both C (snd_name C h) fun _ => rfl
  | Constant c j p => exact both C (snd_const h) fun _ => rfl
  | Tuple es j p => exact both C ((snd_seq In C).1 h) fun _ => rfl
  | List es p => exact both C ((snd_seq In C).2 h) fun _ => rfl
  | UnaryOp o a p => exact snd_un In C h
  | BinOp a o b p => exact both C (snd_bin In C h) fun _ => rfl
  | Compare a ops bs p => exact snd_cmp In C h
  | BoolOp op es p =>
    have h : trB S N n sc op es = some i := h
    exact ⟨(In.b C h).1, (In.b C h).2.pt⟩
  | IfExp c a b p => exact snd_if In C h
  | Subscript a b p => exact both C (snd_sub In C h) fun _ => rfl
  | Call f es kws p => exact both C (snd_call In C h) fun _ => rfl
  | ListComp elt gens scope p => exact both C (snd_lc I C h) fun _ => rfl
  | _ => cases h
end
theorem snd0 (S : Sta) (N : List Str) : Snd S N 0 := ⟨fun _ h => (by cases h), fun _ h => (by cases h), fun _ h => (by cases h), fun _ h => (by cases h), fun _ h => (by cases h), fun _ h => (by cases h), fun _ _ h => (by cases h), fun _ h => (by cases h), fun _ h => (by cases h), fun _ h => (by cases h), fun _ h => (by cases h)⟩
theorem snd_all (S : Sta) (N : List Str) : ∀ n, Snd S N n := by
  intro n
  induction n using Nat.strongRecOn with
  | ind n ih =>
    cases n with
    | zero => exact snd0 S N
    | succ n =>
      have I : ∀ m, m ≤ n → Snd S N m := fun m h => ih m (by omega)
      have In := I n (Nat.le_refl n)
      exact ⟨fun C h => snd_e I C h, fun C h => snd_es In C h, fun C h => snd_b In C h, fun C h => snd_o In C h, fun C h => snd_ifs In C h, fun C h => snd_cl I C h, fun C hf h => snd_rg I C hf h, fun C h => snd_s In C h, fun C h => snd_sb I C h, fun C h => snd_g In C h, fun C h => snd_gs In C h⟩
end DL

/-! DL: statements, translated -/
namespace DL
open PySem PySem.Spec PyProof.Rows L2
mutual
/-- constants, tuples of them -/
def cstE : Nat → Expr → Option D
  | 0, _ => none
  | n + 1, e => match e with
    | .Constant c _ _ => match c with
      | .int i => some (.int i)
      | .bool b => some (.bl b)
      | .none => some .non
      | .str x => match PyData.strOk x && decide (x.length ≤ 1000000) with
        | true => some (.str x)
        | false => none
      | _ => none
    | .Tuple es _ _ => match decide (es.length ≤ 1000000) with
      | true => (cstEs n es).map .tup
      | false => none
    | _ => none
def cstEs : Nat → List Expr → Option (List D)
  | 0, _ => none
  | n + 1, es => match es with
    | [] => some []
    | e :: r => (cstE n e).bind fun d => (cstEs n r).bind fun ds => some (d :: ds)
end
theorem cst_star {n : Nat} {e : Expr} {i : D} (h : cstE n e = some i) (es : List Expr) (env : PySem.Env) : starEach (e :: es) env = (false, eval e env) :: starEach es env := by
  cases e with
  | Starred _ _ => cases n <;> cases h
  | _ => rfl
theorem cstEs_len : ∀ {n : Nat} {es : List Expr} {ds : List D}, cstEs n es = some ds → ds.length = es.length
  | 0, es, ds, h => by cases h
  | n + 1, [], ds, h => by cases h; rfl
  | n + 1, e :: r, ds, h => by
    simp only [cstEs] at h
    obtain ⟨d, h1, h⟩ := obnd h
    obtain ⟨ds', h2, h⟩ := obnd h
    cases h
    rw [List.length_cons, List.length_cons, cstEs_len h2]
mutual
theorem cst_ok {X : Cx} {G : Gm} {W : WX} : ∀ {n : Nat} {e : Expr} {d : D}, cstE n e = some d → PE X e (TD G W fun _ M => .ok d M)
  | 0, e, d, h => by cases h
  | n + 1, e, d, h => by
    cases e with
    | Constant c j p =>
      cases c with
      | int z => cases h; exact pd_int
      | bool z => cases h; exact pd_bl
      | none => cases h; exact pd_non
      | str x =>
        simp only [cstE] at h
        cases h1 : PyData.strOk x && decide (x.length ≤ 1000000) with
        | false => rw [h1] at h; cases h
        | true =>
          rw [h1] at h
          cases h
          obtain ⟨g1, g2⟩ := Bool.and_eq_true_iff.mp h1
          exact pd_str g1 (by have := of_decide_eq_true g2; rw [sizeLine_eq]; omega)
      | _ => cases h
    | Tuple es j p =>
      simp only [cstE] at h
      cases h1 : decide (es.length ≤ 1000000) with
      | false => rw [h1] at h; cases h
      | true =>
        rw [h1] at h
        obtain ⟨ds, h2, rfl⟩ := omap h
        exact pd_tup (csts_ok h2) fun ρ M ds' M' e => by cases e; rw [cstEs_len h2, sizeLine_eq]; have := of_decide_eq_true h1; omega
    | _ => cases h
theorem csts_ok {X : Cx} {G : Gm} {W : WX} : ∀ {n : Nat} {es : List Expr} {ds : List D}, cstEs n es = some ds → PA X es (TAs G W fun _ M => .ok ds M)
  | 0, es, ds, h => by cases h
  | n + 1, [], ds, h => by cases h; exact pda_nil
  | n + 1, e :: r, ds, h => by
    simp only [cstEs] at h
    obtain ⟨d, h1, h⟩ := obnd h
    obtain ⟨ds', h2, h⟩ := obnd h
    cases h
    exact pda_cons (cst_ok h1) (csts_ok h2) (cst_star h1 _ _)
end
/-! ### stores -/
def isStar : Expr → Bool
  | .Starred .. => true
  | _ => false
def swNames (sc : Scope) (ts : List Expr) : List Str := ts.filterMap fun
    | .Name id pos => if sc.names.lookup id == some .local && pos.line == (ts.head?.map (·.pos.line)).getD 0 then some id else none
    | _ => none
/-- how a pair of tuples is stored -/
def swB (sc : Scope) (ts vs : List Expr) : Option (Option (List Str)) :=
  match !(ts.length == 2 || ts.length == 3) || vs.length != ts.length with
  | true => some none
  | false => match vs.any isStar with
    | true => some none
    | false => match (swNames sc ts).length != ts.length || (swNames sc ts).eraseDups.length != (swNames sc ts).length with
      | true => some none
      | false => match vs.all (foldedForSure 8) with
        | true => some none
        | false => match vs.all (constantsAlone 8) with
          | true => none
          | false => some (some (swNames sc ts))
theorem swB_ok {sc : Scope} {ts vs : List Expr} {r : Option (List Str)} {kt k2 : Nat} {pt p2 : Pos} {env : PySem.Env} (he : env.scope = sc) (hk : sc.kind = .function) (h : swB sc ts vs = some r) : swappedStores [.Tuple ts kt pt] (.Tuple vs k2 p2) env = pure r := by
  have hb : env.blockKind = .function := by unfold Env.blockKind; rw [he, hk]; rfl
  subst he
  unfold swB at h
  unfold swappedStores
  simp only [hb]
  show (if (!(ts.length == 2 || ts.length == 3) || vs.length != ts.length || ScopeKind.function != ScopeKind.function) = true then pure none else
    if vs.any isStar = true then pure none else
      if ((swNames env.scope ts).length != ts.length || (swNames env.scope ts).eraseDups.length != (swNames env.scope ts).length) = true then pure none else
        if vs.all (foldedForSure 8) = true then pure none else
          if vs.all (constantsAlone 8) = true then (do
            unsupported "assign.tuple-of-constant-expressions:order-of-the-stores"
            pure (some (swNames env.scope ts)))
          else pure (some (swNames env.scope ts))) = (pure r : Sem (Option (List Str)))
  rw [show (ScopeKind.function != ScopeKind.function) = false from rfl, Bool.or_false]
  cases h1 : !(ts.length == 2 || ts.length == 3) || vs.length != ts.length with
  | true => rw [h1] at h; cases h; rw [if_pos rfl]
  | false =>
    rw [h1] at h
    rw [if_neg (by decide)]
    simp only at h
    cases h2 : vs.any isStar with
    | true => rw [h2] at h; cases h; rw [if_pos rfl]
    | false =>
      rw [h2] at h
      rw [if_neg (by decide)]
      simp only at h
      cases h3 : (swNames env.scope ts).length != ts.length || (swNames env.scope ts).eraseDups.length != (swNames env.scope ts).length with
      | true => rw [h3] at h; cases h; rw [if_pos rfl]
      | false =>
        rw [h3] at h
        rw [if_neg (by decide)]
        simp only at h
        cases h4 : vs.all (foldedForSure 8) with
        | true => rw [h4] at h; cases h; rw [if_pos rfl]
        | false =>
          rw [h4] at h
          rw [if_neg (by decide)]
          simp only at h
          cases h5 : vs.all (constantsAlone 8) with
          | true => rw [h5] at h; cases h
          | false => rw [h5] at h; cases h; rw [if_neg (by decide)]
/-- a list comprehension stored in a name: is it so that .. -/
def swL (sc : Scope) (x : Str) (px : Pos) (names : List (Str × NameKind)) (pos : Pos) : Bool := sc.names.lookup x == some .local && (px.line == pos.line && !(names.any fun (n, k) => n == x && (k == .local || k == .cell)))
theorem swL_ok {sc : Scope} {x : Str} {px pos : Pos} {elt : Expr} {gs : List Comprehension} {scope : Scope} {l : Nat} {env : PySem.Env} (he : env.scope = sc) (hk : sc.kind = .function) : swapsWith (.ListComp elt gs scope pos) (some (.Name x px)) l env = pure (swL sc x px scope.names pos) := by
  have hb : env.blockKind = .function := by unfold Env.blockKind; rw [he, hk]; rfl
  subst he
  unfold swapsWith swL
  simp only [hb, Env.kindOf, Expr.pos]
  congr 1
  rw [show (ScopeKind.function == ScopeKind.function) = true from rfl, Bool.true_and, Bool.and_assoc]
def isComp : Expr → Bool
  | .ListComp .. => true
  | .SetComp .. => true
  | .DictComp .. => true
  | _ => false
theorem sw_no {e : Expr} {t : Option Expr} {l : Nat} {env : PySem.Env} (h : isComp e = false) : swapsWith e t l env = pure false := by
  cases e <;> first | rfl | cases h
theorem sw_tg {e t : Expr} {l : Nat} {env : PySem.Env} (h : ∀ x p, t ≠ .Name x p) : swapsWith e (some t) l env = pure false := by
  cases t with
  | Name x p => exact absurd rfl (h x p)
  | _ => cases e <;> rfl
theorem ss_no {t e : Expr} {env : PySem.Env} (h : (∀ es j p, e ≠ .Tuple es j p) ∨ ((∀ es j p, t ≠ .Tuple es j p) ∧ ∀ es p, t ≠ .List es p)) : swappedStores [t] e env = pure none := by
  rcases h with h | ⟨h, h'⟩
  · cases e with
    | Tuple es j p => exact absurd rfl (h _ _ _)
    | _ => cases t <;> rfl
  · cases t with
    | Tuple es j p => exact absurd rfl (h _ _ _)
    | List es p => exact absurd rfl (h' _ _)
    | _ => rfl
end DL

/-! DL: statements mean what their translations give -/
namespace DL
open PySem PySem.Spec PyProof.Rows L2
section
variable (S : Sta) (N : List Str) (sc : Scope)
/-- except clauses: the classes, what is returned -/
def hdsOf : List ExceptHandler → Option (List (List Nat × D))
  | [] => some []
  | h :: r => match h with
    | .ExceptHandler (some (.Name x _)) none [.Return (some e) _] _ => match isGlo sc x && okName x with
      | true => match S.gv.lookup x with
        | some (.exc c) => match decide (c < S.n) with
          | true => (cstE 6 e).bind fun d => (hdsOf r).bind fun l => some (((List.range S.n).filter (fun a => S.sub a c), d) :: l)
          | false => none
        | _ => none
      | false => none
    | _ => none
/-- two or three names stored at once -/
def trPar (n : Nat) (ts vs : List Expr) (nm : List Str) : Option IS := match ts with
  | [.Name x _, .Name y _] => match vs with
    | [_, _] => (slot N x).bind fun i => (slot N y).bind fun j => match (isLocal sc x && isLocal sc y) && (decide (i ≠ j) && decide (nm = [x, y])) with
      | true => (trEs S N n sc vs).bind fun is => some (.asg (.tup (.cons (.name i) (.cons (.name j) .nil))) (.tup is))
      | false => none
    | _ => none
  | [.Name x _, .Name y _, .Name z _] => match vs with
    | [_, _, _] => (slot N x).bind fun i => (slot N y).bind fun j => (slot N z).bind fun l => match (isLocal sc x && (isLocal sc y && isLocal sc z)) && (decide (i ≠ j) && (decide (i ≠ l) && (decide (j ≠ l) && decide (nm = [x, y, z])))) with
      | true => (trEs S N n sc vs).bind fun is => some (.asg (.tup (.cons (.name i) (.cons (.name j) (.cons (.name l) .nil)))) (.tup is))
      | false => none
    | _ => none
  | _ => none
def trAsg (n : Nat) (t e : Expr) : Option IS := match t with
  | .Name x px => (trE S N n sc e).bind fun e' => (trG S N n sc t).bind fun t' => some (.asg t'.1 e')
  | .Subscript _ _ _ => (trE S N n sc e).bind fun e' => (trG S N n sc t).bind fun t' => some (.asg t'.1 e')
  | .Tuple ts _ _ => match e with
    | .Tuple vs _ _ => (swB sc ts vs).bind fun r => match r with
      | none => (trE S N n sc e).bind fun e' => (trG S N n sc t).bind fun t' => some (.asg t'.1 e')
      | some nm => trPar S N sc n ts vs nm
    | _ => (trE S N n sc e).bind fun e' => (trG S N n sc t).bind fun t' => some (.asg t'.1 e')
  | _ => none
/-- raise C('..') -/
def raiseOf (ex ca : Option Expr) : Option IS := match ca with
  | some _ => none
  | none => match ex with
    | none => none
    | some e => match e with
      | .Call f es kws _ => match kws with
        | _ :: _ => none
        | [] => match f with
          | .Name x _ => match es with
            | [] => none
            | a :: r => match r with
              | _ :: _ => none
              | [] => match a with
                | .Constant c _ _ => match c with
                  | .str _ => match isGlo sc x && okName x with
                    | true => match S.gv.lookup x with
                      | some v => match v with
                        | .exc c => some (.rais c)
                        | _ => none
                      | none => none
                    | false => none
                  | _ => none
                | _ => none
          | _ => none
      | _ => none
mutual
def trS : Nat → Stmt → Option IS
  | 0, _ => none
  | n + 1, st => match st with
    | .Pass _ => some .pass
    | .Break _ => some .brk
    | .Continue _ => some .cont
    | .Expr e _ => match isComp e with
      | true => none
      | false => (trE S N n sc e).bind fun e' => some (.expr e')
    | .Return v _ => match v with
      | none => some .retn
      | some e => (trE S N n sc e).bind fun e' => some (.ret e')
    | .If c a b _ => (trE S N n sc c).bind fun c' => (trSs n a).bind fun a' => (trSs n b).bind fun b' => some (.ifs c' a' b')
    | .While c b o _ => match o with
      | [] => (trE S N n sc c).bind fun c' => (trSs n b).bind fun b' => some (.whl c' b')
      | _ => none
    | .For t e b o _ => match o with
      | [] => (trSrc S N n sc t e).bind fun se => (trG S N n sc t).bind fun t' => (trSs n b).bind fun b' => some (.forr se.1 se.2 t'.1 b')
      | _ => none
    | .Raise ex ca _ => raiseOf S sc ex ca
    | .Try b (h :: hs) [] [] _ => (trSs n b).bind fun b' => (hdsOf S sc (h :: hs)).bind fun l => some (.tryr b' S.n l)
    | .Assign [t] e _ => trAsg S N sc n t e
    | _ => none
def trSs : Nat → List Stmt → Option ISs
  | 0, _ => none
  | n + 1, b => match b with
    | [] => some .nil
    | s :: r => (trS n s).bind fun s' => (trSs n r).bind fun r' => some (.cons s' r')
end
end
/-- the context of a def's statements -/
structure SCtx (S : Sta) (X : Cx) (G : Gm) (N : List Str) (sc : Scope) (call : Nat → List D → Mem → R D) (k : Nat) (W : WX) : Prop where
  c : Ctx S X G N sc call k W
  scope : X.env.scope = sc
  kind : sc.kind = .function
  own : PassesOwn (model X.prog X.w) X.A X.env X.xe
  stk : X.stack = X.env :: X.outer
  frm : X.env.frame = some X.env.locals
section
variable {S : Sta} {X : Cx} {G : Gm} {N : List Str} {sc : Scope} {call : Nat → List D → Mem → R D} {k : Nat} {W : WX} {n : Nat}
theorem SCtx.tr (C : SCtx S X G N sc call k W) {W' : WX} {pn : List (Addr × Obj)} {xe : Value → Shared → Prop} (tk : Takes (X.tr pn xe) W') (po : PassesOwn (model X.prog X.w) X.A X.env xe) : SCtx S (X.tr pn xe) G N sc call k W' :=
  ⟨⟨C.c.hK, C.c.hN, C.c.nd, C.c.rel, C.c.calm, C.c.room, tk, C.c.fn, ⟨C.c.glo.fn, C.c.glo.cst, C.c.glo.exc, C.c.glo.sub, C.c.glo.err, C.c.glo.bl⟩, C.c.lam⟩, C.scope, C.kind, po, C.stk, C.frm⟩
theorem isLocal_ok {sc : Scope} {x : Str} (h : isLocal sc x = true) : sc.names.lookup x = some .local := by
  unfold isLocal at h
  split at h
  · assumption
  · cases h
/-! ### except clauses -/
theorem hds_ok (hgl : ∀ x, isGlo sc x = true → Gl X x) (hex : ∀ x c, S.gv.lookup x = some (.exc c) → X.mg x = some (.ref (G.ca c))) (hsub : ∀ a b, a < S.n → b < S.n → PySem.W.exmOne X.K (.ref (G.ca a)) (.ref (G.ca b)) = some (S.sub a b)) : ∀ {hs : List ExceptHandler} {l : List (List Nat × D)}, hdsOf S sc hs = some l → ∃ L : List (Value × (Addr → Value → Option Addr → TS)), HdsOk X hs L ∧
    ∀ (D : Ends) (π : List Addr) (M : Mem) (ρ : Env) (σ : L2.St) (H : Hp) (e : Exn) (cv : Value) (dx : Option Addr), e.c < S.n → ExR G e cv dx H → EnvOk G π H ρ σ → MemOk G π M H → (∀ d, findH l e.c = some d → ∀ v H', ∀ π', Nx G π π' H H' → MemOk G π' M H' → Rp G π' H' d v → D.rt v H') → (findH l e.c = none → W cv dx σ H) → wMany X.K W D L cv dx σ H
  | [], l, h => by
    cases h
    exact ⟨[], .nil, fun D π M ρ σ H e cv dx _ _ _ _ _ hn => hn rfl⟩
  | .ExceptHandler ty nm bd pos' :: r, l, h => by
    cases ty with
    | none => cases h
    | some ty =>
      cases ty with
      | Name x np =>
        cases nm with
        | some _ => cases h
        | none =>
          cases bd with
          | nil => cases h
          | cons b0 bd =>
            cases bd with
            | cons _ _ => cases b0 with
              | Return v _ => cases v <;> cases h
              | _ => cases h
            | nil =>
              cases b0 with
              | Return v rp =>
                cases v with
                | none => cases h
                | some e =>
                  simp only [hdsOf] at h
                  cases h1 : isGlo sc x && okName x with
                  | false => rw [h1] at h; cases h
                  | true =>
                    rw [h1] at h
                    simp only at h
                    obtain ⟨g1, g2⟩ := Bool.and_eq_true_iff.mp h1
                    cases h2 : S.gv.lookup x with
                    | none => rw [h2] at h; cases h
                    | some v =>
                      rw [h2] at h
                      cases v with
                      | exc c =>
                        simp only at h
                        cases h3 : decide (c < S.n) with
                        | false => rw [h3] at h; cases h
                        | true =>
                          rw [h3] at h
                          obtain ⟨d, h4, h⟩ := obnd h
                          obtain ⟨l', h5, h⟩ := obnd h
                          cases h
                          have hc := of_decide_eq_true h3
                          obtain ⟨L, hL, hW⟩ := hds_ok hgl hex hsub h5
                          have m1 := hex _ _ h2
                          refine ⟨(.ref (G.ca c), fun _ _ _ => TSt G W0 fun ρ M => .rt d ρ M) :: L, .cons ⟨hgl _ g1, (okName_ok g2).1, .inl m1⟩ (fun a oe cls dd pn _ _ => ?_) hL, fun D π M ρ σ H e cv dx he er hen hm hy hn => ?_⟩
                          · refine pss_imp (pss_one (psd_ret (cst_ok h4))) fun D σ H h => h
                          · obtain ⟨rfl, _, _⟩ := id er
                            refine ⟨S.sub e.c c, hsub _ _ he hc, fun hb a _ => ?_, fun hb => ?_⟩
                            · refine ⟨π, M, ρ, hen, hm, fun π' v H' x m r => ?_⟩
                              refine hy d ?_ v H' π' x m r
                              show (match ((List.range S.n).filter (fun a => S.sub a c)).contains e.c with
                                | true => some d
                                | false => findH l' e.c) = some d
                              rw [show ((List.range S.n).filter (fun a => S.sub a c)).contains e.c = true by
                                rw [List.contains_iff_mem, List.mem_filter]; exact ⟨List.mem_range.mpr he, hb⟩]
                            · have q : findH (((List.range S.n).filter (fun a => S.sub a c), d) :: l') e.c = findH l' e.c := by
                                show (match ((List.range S.n).filter (fun a => S.sub a c)).contains e.c with
                                  | true => some d
                                  | false => findH l' e.c) = _
                                rw [show ((List.range S.n).filter (fun a => S.sub a c)).contains e.c = false by
                                  rw [Bool.eq_false_iff]
                                  intro z
                                  rw [List.contains_iff_mem, List.mem_filter] at z
                                  rw [z.2] at hb; cases hb]
                              rw [q] at hy hn
                              exact hW D π M ρ σ H e _ dx he er hen hm hy hn
                      | _ => cases h
              | _ => cases h
      | _ => cases h
end
end DL

/-! DL: statements mean what their translations give -/
namespace DL
open PySem PySem.Spec PyProof.Rows L2
section
variable {S : Sta} {X : Cx} {G : Gm} {N : List Str} {sc : Scope} {call : Nat → List D → Mem → R D} {k : Nat} {W : WX} {n : Nat}
theorem trE_tup {es : List Expr} {j : Nat} {p : Pos} {i : IE} (h : trE S N n sc (.Tuple es j p) = some i) : ∃ m is, n = m + 1 ∧ trEs S N m sc es = some is ∧ i = .tup is := by
  cases n with
  | zero => cases h
  | succ n =>
    simp only [trE] at h
    cases h1 : decide (es.length ≤ 1000000) with
    | false => rw [h1] at h; cases h
    | true =>
      rw [h1] at h
      obtain ⟨is, h2, rfl⟩ := omap h
      exact ⟨n, is, rfl, h2, rfl⟩
theorem sws {t e : Expr} {l : Nat} {env : PySem.Env} {r : Sem Bool} (h : swapsWith e (some t) l env = r) : swapsWithSole [t] e l env = r := by
  show swapsWith e (some t) l env = r
  exact h
theorem raise_ok (C : SCtx S X G N sc call k W) {ex ca : Option Expr} {pos : Pos} {i : IS} (h : raiseOf S sc ex ca = some i) : PS X (.Raise ex ca pos) (TSt G W (evS call i)) := by
  cases ca with
  | some _ => cases h
  | none =>
    cases ex with
    | none => cases h
    | some e =>
      cases e with
      | Call f es kws p1 =>
        cases kws with
        | cons _ _ => cases h
        | nil =>
          cases f with
          | Name x p2 =>
            cases es with
            | nil => cases h
            | cons a r =>
              cases r with
              | cons _ _ => cases h
              | nil =>
                cases a with
                | Constant c j p3 =>
                  cases c with
                  | str m =>
                    simp only [raiseOf] at h
                    cases h1 : isGlo sc x && okName x with
                    | false => rw [h1] at h; cases h
                    | true =>
                      rw [h1] at h
                      simp only at h
                      obtain ⟨g1, g2⟩ := Bool.and_eq_true_iff.mp h1
                      cases h2 : S.gv.lookup x with
                      | none => rw [h2] at h; cases h
                      | some v =>
                        rw [h2] at h
                        cases v with
                        | exc c =>
                          cases h
                          obtain ⟨q1, q2, q3, q4, q5⟩ := C.c.glo.exc _ _ h2
                          exact psd_raise C.c.calm C.c.tk q2 q1 q3 q4 q5 (isGlo_ok C.c.rel g1) (okName_ok g2).1
                        | _ => cases h
                  | _ => cases h
                | _ => cases h
          | _ => cases h
      | _ => cases h
theorem asg_any (C : SCtx S X G N sc call k W) {t e : Expr} {p : Pos} {i : IS} (h : ((trE S N n sc e).bind fun e' => (trG S N n sc t).bind fun t' => some (IS.asg t'.1 e')) = some i) (hs : swapsWithSole [t] e p.line X.env = pure false) (hw : swappedStores [t] e X.env = pure none)
    (h3 : (assignEach [t] X.env).map (·.2) = [assign t X.env]) : PS X (.Assign [t] e p) (TSt G W (evS call i)) := by
  obtain ⟨e', h1, h⟩ := obnd h
  obtain ⟨t', h2, h⟩ := obnd h
  cases h
  have I := snd_all S N n
  exact psd_asg (I.e C.c h1).1 (I.g C.c h2) (evG_plain t'.1) hs hw h3
theorem trE_lc {elt : Expr} {gens : List Comprehension} {scope : Scope} {pos : Pos} {i : IE} (h : trE S N n sc (.ListComp elt gens scope pos) = some i) : ∃ m tg iter ifs se t ifs' e', n = m + 1 ∧ gens = [⟨tg, iter, ifs, 0⟩] ∧ blkC N sc scope (ownOf N scope.names) = true ∧ trSrc S N m sc tg iter = some se ∧ trG S N m (mkS sc scope) tg = some t ∧
    (t.2.all fun i => (((ownOf N scope.names).map (·.2)).contains i)) = true ∧ trIfs S N m (mkS sc scope) ifs = some ifs' ∧ trE S N m (mkS sc scope) elt = some e' ∧ i = .comp ((ownOf N scope.names).map (·.2)) se.1 se.2 t.1 ifs' e' := by
  cases n with
  | zero => cases h
  | succ n =>
    cases gens with
    | nil => cases h
    | cons g gens =>
      cases gens with
      | cons _ _ => cases h
      | nil =>
        obtain ⟨tg, iter, ifs, a⟩ := g
        simp only [trE] at h
        cases h1 : a == 0 && blkC N sc scope (ownOf N scope.names) with
        | false => rw [h1] at h; cases h
        | true =>
          rw [h1] at h
          simp only at h
          obtain ⟨g1, g2⟩ := Bool.and_eq_true_iff.mp h1
          have := eq_of_beq g1
          subst this
          obtain ⟨se, h2, h⟩ := obnd h
          obtain ⟨t, h3, h⟩ := obnd h
          cases h4 : t.2.all fun i => (((ownOf N scope.names).map (·.2)).contains i) with
          | false => rw [h4] at h; cases h
          | true =>
            rw [h4] at h
            simp only at h
            obtain ⟨ifs', h5, h⟩ := obnd h
            obtain ⟨e', h6, h⟩ := obnd h
            cases h
            exact ⟨n, tg, iter, ifs, se, t, ifs', e', rfl, rfl, g2, h2, h3, h4, h5, h6, rfl⟩
theorem asg_name (C : SCtx S X G N sc call k W) {x : Str} {px p : Pos} {e : Expr} {i : IS} (h : trAsg S N sc n (.Name x px) e = some i) : PS X (.Assign [.Name x px] e p) (TSt G W (evS call i)) := by
  have h : ((trE S N n sc e).bind fun e' => (trG S N n sc (.Name x px)).bind fun t' => some (IS.asg t'.1 e')) = some i := h
  have hw : swappedStores [Expr.Name x px] e X.env = pure none := rfl
  cases hc : isComp e with
  | false => exact asg_any C h (sws (sw_no hc)) hw rfl
  | true =>
    cases e with
    | ListComp elt gens scope pos =>
      have hsw : swapsWith (.ListComp elt gens scope pos) (some (.Name x px)) p.line X.env = pure (swL sc x px scope.names pos) := swL_ok C.scope C.kind
      cases hb : swL sc x px scope.names pos with
      | false => exact asg_any C h (sws (by rw [hb] at hsw; exact hsw)) hw rfl
      | true =>
        rw [hb] at hsw
        obtain ⟨e', h1, h⟩ := obnd h
        obtain ⟨t', h2, h⟩ := obnd h
        cases h
        obtain ⟨m, tg, iter, ifs, se, t, ifs', e2, rfl, rfl, q1, q2, q3, q4, q5, q6, rfl⟩ := trE_lc h1
        have In := snd_all S N m
        have B := blkOk_by q1
        have hl : X.env.scope.names.lookup x = some .local := by
          unfold swL at hb
          simp only [Bool.and_eq_true, beq_iff_eq] at hb
          rw [C.scope]; exact hb.1
        simp only [trG] at h2
        cases h3 : isLoc sc x with
        | false => rw [h3] at h2; cases h2
        | true =>
          rw [h3] at h2
          obtain ⟨j, h4, rfl⟩ := omap h2
          obtain ⟨p1, p2⟩ := In.s C.c q2
          refine psd_setLc (t := fun d ρ M => evG call t.1 d ρ M) (tt := evC call ifs') (te := evE call e2) C.c.calm (by rw [C.c.hN]; exact C.c.nd) (by rw [C.c.hN]; exact slot_ok h4) hl hsw p1 (blk_ok C.c B) (fun s H c cl fp => In.g (blk_ctx C.c B s H c cl fp) q3) (fun s H c cl fp => In.ifs (blk_ctx C.c B s H c cl fp) q5) (fun s H c cl fp => (In.e (blk_ctx C.c B s H c cl fp) q6).1) p2 fun i hi => ?_
          have := List.all_eq_true.mp q4 i hi
          simpa [List.contains_iff_mem] using this
    | SetComp _ _ _ _ => cases n <;> cases h
    | DictComp _ _ _ _ _ => cases n <;> cases h
    | _ => cases hc
theorem par2_eq {i j : Nat} {is : IEs} (hl : is.len = 2) (ρ : Env) (M : Mem) : fPar [i, j] (evEs call is) ρ M = evS call (.asg (.tup (.cons (.name i) (.cons (.name j) .nil))) (.tup is)) ρ M := by
  show ((evEs call is ρ M).toF ρ fun ds M1 => match [i, j], ds with
    | [i, j], [d, e] => F.nx ((ρ.set i (some d)).set j (some e)) M1
    | [i, j, k], [d, e, c] => .nx (((ρ.set i (some d)).set j (some e)).set k (some c)) M1
    | _, _ => .bad) = ((evEs call is ρ M).bind fun ds M1 => R.ok (D.tup ds) M1).toF ρ fun d M1 => evG call (.tup (.cons (.name i) (.cons (.name j) .nil))) d ρ M1
  cases h : evEs call is ρ M with
  | bad => rfl
  | exc _ _ => rfl
  | ok ds M1 =>
    have := evEs_len h
    rw [hl] at this
    match ds, this with
    | [d, e], _ => rfl
theorem par3_eq {i j l : Nat} {is : IEs} (hl : is.len = 3) (ρ : Env) (M : Mem) : fPar [i, j, l] (evEs call is) ρ M = evS call (.asg (.tup (.cons (.name i) (.cons (.name j) (.cons (.name l) .nil)))) (.tup is)) ρ M := by
  show ((evEs call is ρ M).toF ρ fun ds M1 => match [i, j, l], ds with
    | [i, j], [d, e] => F.nx ((ρ.set i (some d)).set j (some e)) M1
    | [i, j, k], [d, e, c] => .nx (((ρ.set i (some d)).set j (some e)).set k (some c)) M1
    | _, _ => .bad) = ((evEs call is ρ M).bind fun ds M1 => R.ok (D.tup ds) M1).toF ρ fun d M1 => evG call (.tup (.cons (.name i) (.cons (.name j) (.cons (.name l) .nil)))) d ρ M1
  cases h : evEs call is ρ M with
  | bad => rfl
  | exc _ _ => rfl
  | ok ds M1 =>
    have := evEs_len h
    rw [hl] at this
    match ds, this with
    | [d, e, f], _ => rfl
theorem ps_eq {st : Stmt} {f g : Env → Mem → F} (h : PS X st (TSt G W f)) (e : ∀ ρ M, f ρ M = g ρ M) : PS X st (TSt G W g) := by
  have : f = g := funext fun ρ => funext fun M => e ρ M
  rw [← this]; exact h
theorem asg_par (C : SCtx S X G N sc call k W) {ts vs : List Expr} {kt k2 : Nat} {pt p2 p : Pos} {nm : List Str} {i : IS} (hb : swB sc ts vs = some (some nm)) (h : trPar S N sc n ts vs nm = some i) : PS X (.Assign [.Tuple ts kt pt] (.Tuple vs k2 p2) p) (TSt G W (evS call i)) := by
  have hw : swappedStores [.Tuple ts kt pt] (.Tuple vs k2 p2) X.env = pure (some nm) := swB_ok C.scope C.kind hb
  have I := snd_all S N n
  have hsl : ∀ {y : Str} {j : Nat}, slot N y = some j → X.N[j]? = some y := fun q => by rw [C.c.hN]; exact slot_ok q
  have hlo : ∀ {y : Str}, isLocal sc y = true → X.env.scope.names.lookup y = some .local := fun q => by rw [C.scope]; exact isLocal_ok q
  have hnd : X.N.Nodup := by rw [C.c.hN]; exact C.c.nd
  unfold trPar at h
  split at h
  · split at h
    · obtain ⟨j1, h1, h⟩ := obnd h
      obtain ⟨j2, h2, h⟩ := obnd h
      split at h
      · rename_i q
        obtain ⟨is, h3, h⟩ := obnd h
        cases h
        simp only [Bool.and_eq_true, decide_eq_true_eq] at q
        obtain ⟨⟨l1, l2⟩, n1, e1⟩ := q
        subst e1
        obtain ⟨A1, A2⟩ := I.es C.c h3
        exact ps_eq (psd_par2 C.c.calm hnd (hsl h1) (hsl h2) n1 (hlo l1) (hlo l2) A1 hw) (par2_eq A2)
      · cases h
    · cases h
  · split at h
    · obtain ⟨j1, h1, h⟩ := obnd h
      obtain ⟨j2, h2, h⟩ := obnd h
      obtain ⟨j3, h3, h⟩ := obnd h
      split at h
      · rename_i q
        obtain ⟨is, h4, h⟩ := obnd h
        cases h
        simp only [Bool.and_eq_true, decide_eq_true_eq] at q
        obtain ⟨⟨l1, l2, l3⟩, n1, n2, n3, e1⟩ := q
        subst e1
        obtain ⟨A1, A2⟩ := I.es C.c h4
        exact ps_eq (psd_par3 C.c.calm hnd (hsl h1) (hsl h2) (hsl h3) n1 n2 n3 (hlo l1) (hlo l2) (hlo l3) A1 hw) (par3_eq A2)
      · cases h
    · cases h
  · cases h
theorem asg_ok (C : SCtx S X G N sc call k W) {t e : Expr} {p : Pos} {i : IS} (h : trAsg S N sc n t e = some i) : PS X (.Assign [t] e p) (TSt G W (evS call i)) := by
  cases t with
  | Name x px => exact asg_name C h
  | Subscript o j q =>
    exact asg_any C h (sws (sw_tg fun x p z => (by cases z))) (ss_no (.inr ⟨fun _ _ _ z => (by cases z), fun _ _ z => (by cases z)⟩)) rfl
  | Tuple ts kt pt =>
    have hs : swapsWithSole [Expr.Tuple ts kt pt] e p.line X.env = pure false := sws (sw_tg fun x p z => (by cases z))
    cases e with
    | Tuple vs k2 p2 =>
      have h : ((swB sc ts vs).bind fun r => match r with
        | none => (trE S N n sc (.Tuple vs k2 p2)).bind fun e' => (trG S N n sc (.Tuple ts kt pt)).bind fun t' => some (IS.asg t'.1 e')
        | some nm => trPar S N sc n ts vs nm) = some i := h
      obtain ⟨r, h1, h⟩ := obnd h
      cases r with
      | none => exact asg_any C h hs (swB_ok C.scope C.kind h1) rfl
      | some nm => exact asg_par C h1 h
    | _ => exact asg_any C h hs (ss_no (.inl fun _ _ _ z => (by cases z))) rfl
  | _ => cases h
structure SndS (S : Sta) (N : List Str) (sc : Scope) (n : Nat) : Prop where
  s : ∀ {X : Cx} {G : Gm} {call : Nat → List D → Mem → R D} {k : Nat} {W : WX} {st : Stmt} {i : IS}, SCtx S X G N sc call k W → trS S N sc n st = some i → PS X st (TSt G W (evS call i))
  ss : ∀ {X : Cx} {G : Gm} {call : Nat → List D → Mem → R D} {k : Nat} {W : WX} {b : List Stmt} {is : ISs}, SCtx S X G N sc call k W → trSs S N sc n b = some is → PSs X b (TSt G W (evSs call is))
theorem try_ok (I : SndS S N sc n) (C : SCtx S X G N sc call k W) {b : List Stmt} {h0 : ExceptHandler} {hs : List ExceptHandler} {pos : Pos} {b' : ISs} {l : List (List Nat × D)} (h1 : trSs S N sc n b = some b') (h2 : hdsOf S sc (h0 :: hs) = some l) : PS X (.Try b (h0 :: hs) [] [] pos) (TSt G W (evS call (.tryr b' S.n l))) := by
  obtain ⟨L, hL, hW⟩ := hds_ok (fun x h => isGlo_ok C.c.rel h) (fun x c h => (C.c.glo.exc x c h).1) C.c.glo.sub h2
  refine ps_imp (ps_try_many (tb := fun W' => TSt G W' (evSs call b')) C.stk C.frm C.c.tk (fun W' pn xe tk po => I.ss (C.tr tk po) h1) hL) fun D σ H ⟨π, M, ρ, he, hm, h⟩ => ?_
  refine ⟨π, M, ρ, he, hm, ?_⟩
  have h : pF G W (tryF S.n l (evSs call b' ρ M)) π H D := h
  generalize evSs call b' ρ M = r at h ⊢
  cases r with
  | ex e ρ' M' =>
    intro π' σ' H' cv dx x he' hm' er
    have h : pF G W (match decide (e.c < S.n) with
      | true => match findH l e.c with
        | some d => .rt d ρ' M'
        | none => .ex e ρ' M'
      | false => .bad) π H D := h
    cases hd : decide (e.c < S.n) with
    | false => rw [hd] at h; exact h.elim
    | true =>
      rw [hd] at h
      refine hW D π' M' ρ' σ' H' e cv dx (of_decide_eq_true hd) er he' hm' (fun d hf v H2 π2 x2 m2 r2 => ?_) fun hf => ?_
      · simp only [hf] at h
        exact h π2 v H2 (x.trans x2) m2 r2
      · simp only [hf] at h
        exact h π' σ' H' cv dx x he' hm' er
  | _ => exact h
theorem snd_st (I : SndS S N sc n) (C : SCtx S X G N sc call k W) {st : Stmt} {i : IS} (h : trS S N sc (n + 1) st = some i) : PS X st (TSt G W (evS call i)) := by
  have E := snd_all S N n
  cases st with
  | Pass p => cases h; exact psd_pass
  | Break p => cases h; exact psd_brk
  | Continue p => cases h; exact psd_cont
  | Expr e p =>
    simp only [trS] at h
    cases hc : isComp e with
    | true => rw [hc] at h; cases h
    | false =>
      rw [hc] at h
      obtain ⟨e', h1, h⟩ := obnd h
      cases h
      exact psd_expr (E.e C.c h1).1 (sw_no hc)
  | Return v p =>
    cases v with
    | none => cases h; exact psd_retn
    | some e =>
      simp only [trS] at h
      obtain ⟨e', h1, h⟩ := obnd h
      cases h
      exact psd_ret (E.e C.c h1).1
  | If c a b p =>
    simp only [trS] at h
    obtain ⟨c', h1, h⟩ := obnd h
    obtain ⟨a', h2, h⟩ := obnd h
    obtain ⟨b', h3, h⟩ := obnd h
    cases h
    exact psd_if (E.e C.c h1).2 (I.ss C h2) (I.ss C h3)
  | While c b o p =>
    cases o with
    | cons _ _ => cases h
    | nil =>
      simp only [trS] at h
      obtain ⟨c', h1, h⟩ := obnd h
      obtain ⟨b', h2, h⟩ := obnd h
      cases h
      exact psd_while C.own (E.e C.c h1).2 (I.ss C h2)
  | For t e b o p =>
    cases o with
    | cons _ _ => cases h
    | nil =>
      simp only [trS] at h
      obtain ⟨se, h1, h⟩ := obnd h
      obtain ⟨t', h2, h⟩ := obnd h
      obtain ⟨b', h3, h⟩ := obnd h
      cases h
      obtain ⟨q1, q2⟩ := E.s C.c h1
      exact psd_for C.own C.c.calm q1 (E.g C.c h2) (evG_plain t'.1) (I.ss C h3) q2
  | Raise ex ca p =>
    exact raise_ok C h
  | Try b hs o f p =>
    cases hs with
    | nil => cases h
    | cons h0 hs =>
      cases o with
      | cons _ _ => cases h
      | nil =>
        cases f with
        | cons _ _ => cases h
        | nil =>
          simp only [trS] at h
          obtain ⟨b', h1, h⟩ := obnd h
          obtain ⟨l, h2, h⟩ := obnd h
          cases h
          exact try_ok I C h1 h2
  | Assign ts e p =>
    cases ts with
    | nil => cases h
    | cons t ts =>
      cases ts with
      | cons _ _ => cases h
      | nil => exact asg_ok C h
  | _ => cases h
theorem sndS_all (S : Sta) (N : List Str) (sc : Scope) : ∀ n, SndS S N sc n
  | 0 => ⟨fun _ h => (by cases h), fun _ h => (by cases h)⟩
  | n + 1 => by
    have I := sndS_all S N sc n
    refine ⟨fun C h => snd_st I C h, fun {X G call k W b is} C h => ?_⟩
    cases b with
    | nil => cases h; exact pssd_nil
    | cons s r =>
      simp only [trSs] at h
      obtain ⟨s', h1, h⟩ := obnd h
      obtain ⟨r', h2, h⟩ := obnd h
      cases h
      exact pssd_cons (I.s C h1) (I.ss C h2)
end
end DL

/-! DL: defs keep what the evaluator tells -/
namespace DL
open PySem PySem.Spec PyProof.Rows L2
/-! ### the def that calls what it gets and tells errors -/
section
variable {X : Cx} {G : Gm} {S : Sta}
theorem nx_extN {π : List Addr} {H H' : Hp} (e : LamX.ExtN H H') : Nx G π π H H' := ⟨⟨[], by simp⟩, fun a xs h => by
  rcases h with h | h
  · rcases h with h | ⟨ob, h⟩
    · exact .inl (.inl (e _ _ h fun ps z => by cases z))
    · exact .inl (.inr ⟨ob, e _ _ h fun ps z => by cases z⟩)
  · exact .inr h⟩
theorem mem_extN {π : List Addr} {M : Mem} {H H' : Hp} (m : MemOk G π M H) (e : LamX.ExtN H H') (t : LamX.Tabs G.T H') : MemOk G π M H' := by
  refine ⟨m.nd, m.len, fun n c a h1 h2 => (m.cell n c a h1 h2).mono (nx_extN e) fun vs h => e _ _ h fun ps z => (by cases z), t, ?_⟩
  rcases m.scr with s | ⟨ob, s⟩ | ⟨s, h⟩
  · exact .inl s
  · exact .inr (.inl ⟨ob, e _ _ s fun ps z => by cases z⟩)
  · exact .inr (.inr ⟨e _ _ s fun ps z => (by cases z), h⟩)
/-- what an error brings that a clause takes -/
def eTold (G : Gm) (n : Nat) (l : List (List Nat × D)) (Q : VK) : XK := fun cv dx H => ∃ π M e, MemOk G π M H ∧ ExR G e cv dx H ∧ e.c < n ∧ ∃ d, findH l e.c = some d ∧ ∀ π' v H', Nx G π π' H H' → MemOk G π' M H' → Rp G π' H' d v → Q v H'
def TToldD (G : Gm) (n : Nat) (l : List (List Nat × D)) (ret : Str) : (XK → Hp → VK → Prop) → Hp → VK → Prop := fun tl H Q => tl (eTold G n l Q) H fun _ H' => Q (.str ret) H'
theorem toldD_gives {Ng : List Str} {x a q ret : Str} {sg : Scope} {g : Addr} {cdg : Value} {j : Nat} {p1 p2 p3 p4 p5 p6 : Pos} {h0 : ExceptHandler} {hs : List ExceptHandler} {l : List (List Nat × D)} (hh : hdsOf S sg (h0 :: hs) = some l)
    (hex : ∀ x c, S.gv.lookup x = some (.exc c) → X.mg x = some (.ref (G.ca c))) (hsub : ∀ a b, a < S.n → b < S.n → PySem.W.exmOne X.K (.ref (G.ca a)) (.ref (G.ca b)) = some (S.sub a b)) (hst : ∀ f : Addr, (L2.start Ng [V.ref f])[0]? = some (some (V.ref f))) :
    LamX.GivesTo X Ng x sg g cdg [.Try [.Expr (.Call (.Name a p1) [] [] p2) p3] (h0 :: hs) [] [] p4, .Return (some (.Constant (.str ret) j p5)) p6] a q (TToldD G S.n l ret) := by
  intro f c' s H Q tl act hc h
  have hgl : ∀ y, isGlo sg y = true → Gl ((cxOf C8.CX0 X.prog X.w X.K X.mg X.base Ng x sg g cdg X.A X.stack s H C8.E0).nox) y := fun y hy => by
    unfold isGlo at hy
    split at hy
    · assumption
    · cases hy
  obtain ⟨L, hL, hW⟩ := hds_ok (X := (cxOf C8.CX0 X.prog X.w X.K X.mg X.base Ng x sg g cdg X.A X.stack s H C8.E0).nox) (W := W0) hgl hex hsub hh
  refine ⟨_, pss_cons (ps_try_many (X := (cxOf C8.CX0 X.prog X.w X.K X.mg X.base Ng x sg g cdg X.A X.stack s H C8.E0).nox) (Wout := W0)
      (tb := fun W D σ H => ∃ Ech : XK, (∀ cls d σ' H', Ech cls d H' → W cls d σ' H') ∧ σ[0]? = some (some (.ref f)) ∧ H c' = some (LamX.CodeO c' q) ∧ tl Ech H fun _ H' => D.nx σ H')
      rfl rfl LamX.takes0 (fun W pn xe tk _ => ?_) hL) (pss_one (ps_ret pe_str)), ?_⟩
  · refine ⟨fun pins s' σ H' D I h' => ?_⟩
    obtain ⟨Ech, hW, h1, h2, h3⟩ := h'
    have hp := act W pn xe Ech p1 p2 tk hW
    exact (pss_one (ps_expr (pos := p3) hp (sw_no rfl))).run pins s' σ H' D I ⟨h1, h2, h3⟩
  · refine ⟨eTold G S.n l Q, fun cls d σ' H' he => ?_, hst f, hc, h⟩
    obtain ⟨π, M, e, hm, er, hn, d', hf, hq⟩ := he
    refine hW _ π M (List.replicate σ'.length none) σ' H' e cls d hn er ⟨by simp, fun i d hd => ?_⟩ hm (fun d2 hf2 v H2 π2 x2 m2 r2 => ?_) fun hz => ?_
    · rw [List.getElem?_replicate] at hd
      split at hd <;> cases hd
    · rw [hf] at hf2
      cases hf2
      exact hq π2 v H2 x2 m2 r2
    · rw [hf] at hz; cases hz
/-- .. as a rule -/
theorem err_rule {k : Nat} {x a ret : Str} {g : Addr} {pg : Arguments} {sg : Scope} {Ng : List Str} {dV kV doc pm cdg ct oc : Value} {an od : Option Addr} {osl : Array (Option Value)} {j : Nat} {p1 p2 p3 p4 p5 p6 : Pos} {h0 : ExceptHandler} {hs : List ExceptHandler} {l : List (List Nat × D)} (hK : G.K = X.K)
    (hm : X.mg x = some (.ref g)) (hk : PySem.W.keepIn X.K (.ref g) = true)
    (lk : X.K.lookup g = some ⟨oc, od, .func (PySem.W.fnOf x x pg [.Try [.Expr (.Call (.Name a p1) [] [] p2) p3] (h0 :: hs) [] [] p4, .Return (some (.Constant (.str ret) j p5)) p6] sg dV kV doc pm an cdg ct), osl⟩) (hcg : PySem.W.codeIn X.K cdg x = true)
    (hb : L2.Binds X.K (PySem.W.fnOf x x pg [.Try [.Expr (.Call (.Name a p1) [] [] p2) p3] (h0 :: hs) [] [] p4, .Return (some (.Constant (.str ret) j p5)) p6] sg dV kV doc pm an cdg ct) [a] []) (Sg : FnScope Ng [a] sg) (hNg : Ng[0]? = some a) (hva : Vis sg a)
    (hh : hdsOf S sg (h0 :: hs) = some l) (hex : ∀ x c, S.gv.lookup x = some (.exc c) → X.mg x = some (.ref (G.ca c))) (hsub : ∀ a b, a < S.n → b < S.n → PySem.W.exmOne X.K (.ref (G.ca a)) (.ref (G.ca b)) = some (S.sub a b)) (hr : PyData.strOk ret = true) (hr2 : ret.length ≤ sizeLine)
    (hdb : (x == ("__debug__" : Str)) = false) (hd : (a == ("__debug__" : Str)) = false) (hcd : (a == ("__classdict__" : Str)) = false) :
    ErrRule X G k x S.n l (.str ret) := by
  intro Y e1 e2 e3 e4 e5 hroom hgl W params body scope p lpos pos f hP hL ⟨c, P, tb, hcode, hmT, hu⟩ hbody
  have hex' : ∀ x c, S.gv.lookup x = some (.exc c) → Y.mg x = some (.ref (G.ca c)) := by rw [e4]; exact hex
  have hsub' : ∀ a b, a < S.n → b < S.n → PySem.W.exmOne Y.K (.ref (G.ca a)) (.ref (G.ca b)) = some (S.sub a b) := by rw [e3]; exact hsub
  rw [← e3] at hk lk hcg hb
  rw [← e4] at hm
  have hst : ∀ f : Addr, (L2.start Ng [V.ref f])[0]? = some (some (V.ref f)) := fun f => rfl
  have hpar : params = ⟨[], [], none, [], [], none, []⟩ := by
    unfold lamP at hP
    split at hP
    · rfl
    · cases hP
  subst hpar
  have R := LamX.pe_lamcall (X := Y) (T := G.T) (t := fun E => TD G (fun cv dx _ H' => E cv dx H') f) (TT := TToldD G S.n l ret) (p := p) (lpos := lpos) (pos := pos) (params := ⟨[], [], none, [], [], none, []⟩) (body := body) (scope := scope) (a := a) hgl hm hk lk hcg hb Sg hNg hva (toldD_gives hh hex' hsub' hst) tb hcode hmT hu hroom hL rfl (fun q cl pm cv ctv => rfl) hbody hdb hd hcd
  refine pe_imp R fun σ H Q ⟨π, M, ρ, he, hm, h⟩ => ⟨hm.tabs, fun H1 eN T1 => ?_⟩
  have x1 : Nx G π π H H1 := nx_extN eN
  have m1 := mem_extN hm eN T1
  refine ⟨π, M, ρ, he.mono x1, m1, ?_⟩
  have h : pst G (Rp G) (lamR S.n l (.str ret) (f ρ M)) π H1 Q (fun cv dx H' => W cv dx σ H') := pst_base h x1
  generalize f ρ M = r at h ⊢
  cases r with
  | bad => exact h.elim
  | ok d M' => exact fun π' v H' x m _ => h π' _ H' x m (.str ret hr hr2)
  | exc e M' =>
    intro π' H' cv dx x m er
    have h : pst G (Rp G) (match decide (e.c < S.n) with
      | true => opt (findH l e.c) M'
      | false => .bad) π H1 Q _ := h
    cases hd : decide (e.c < S.n) with
    | false => rw [hd] at h; exact h.elim
    | true =>
      rw [hd] at h
      obtain ⟨d, hf, h⟩ := pst_opt h
      exact ⟨π', M', e, m, er, of_decide_eq_true hd, d, hf, fun π2 v H2 x2 m2 r2 => h π2 v H2 (x.trans x2) m2 r2⟩
end
/-! ### defs -/
def F0 (k : Nat) : Nat := 3 * k
theorem env_start {G : Gm} {π : List Addr} {H : Hp} {ds : List D} {vs : List V} {N : List Str} {n p : Nat} (r : Rps G π H ds vs) (hp : vs.length = p) (hn : n = N.length) (hl : p ≤ N.length) : EnvOk G π H (ds.map some ++ List.replicate (n - p) none) (L2.start N vs) := by
  unfold L2.start
  have e := r.length
  refine ⟨by simp [e, hn]; omega, fun i d h => ?_⟩
  by_cases hi : i < ds.length
  · rw [List.getElem?_append_left (by simpa using hi), List.getElem?_map] at h
    cases q : ds[i]? with
    | none => rw [q] at h; cases h
    | some d' =>
      rw [q] at h
      have : d' = d := by simpa using h
      subst this
      obtain ⟨v, hv, hr⟩ := r.getD q
      exact ⟨v, by rw [List.getElem?_append_left (by simp; omega), List.getElem?_map, hv]; rfl, hr⟩
  · rw [List.getElem?_append_right (by simpa using hi), List.getElem?_replicate] at h
    split at h <;> cases h
theorem pF_of {G : Gm} {W : WX} {r : F} {π : List Addr} {H : Hp} {Q : VK} {E : XK} (h : pst G (Rp G) r.toR π H Q E) (hW : ∀ cv dx σ H', E cv dx H' → W cv dx σ H') : pF G W r π H { nx := fun _ H' => Q .non H', rt := Q } := by
  cases r with
  | nx ρ M => exact fun π' σ' H' x e m => h π' _ H' x m .non
  | rt d ρ M => exact h
  | bk ρ M => exact h.elim
  | ct ρ M => exact h.elim
  | ex e ρ M => exact fun π' σ' H' cv dx x _ m er => hW _ _ _ _ (h π' H' cv dx x m er)
  | bad => exact h
structure DefOk (S : Sta) (d : He.DefD) (N : List Str) (f : Def) (lam : Bool) : Prop where
  dfl : d.dfl = []
  sc : FnScope N (N.take f.ps) d.scope
  ps : f.ps ≤ N.length
  n : f.n = N.length
  tr : trSs { S with lam := lam } N d.scope 60 d.body = some f.body
  bnd : ∀ (kV doc pm : Value) (an : Option Addr) (cdv ct : Value) (us : List Value), us.length = (N.take f.ps).length → bindArgs (PySem.W.fnOf d.name d.qual d.params d.body d.scope .none kV doc pm an cdv ct) ⟨us, []⟩ = pure ((N.take f.ps).zip us)
/-- what is known of a module -/
structure Wd (prog : Program) (w : World) (K : PySem.W.Frag) (mg : Str → Option Value) (base : Heap) (G : Gm) (S : Sta) (fn : List He.DefD) (Ns : List (List Str)) (P : List Def) (lams : List Bool) : Prop where
  hK : G.K = K
  fd : ∀ (g : Nat) (d : He.DefD), fn[g]? = some d → ∃ fd, FunD K d.name d.qual d.params d.body d.scope (d.dvs K) (d.kws K) (G.fa g) fd
  ok : ∀ (g : Nat) (f : Def), P[g]? = some f → ∃ d N lam, fn[g]? = some d ∧ Ns[g]? = some N ∧ lams[g]? = some lam ∧ DefOk S d N f lam
  lam : ∀ (g : Nat) (d : He.DefD) (cdv : Value) (oc : Value) (od : Option Addr) (fd : FuncData) (osl : Array (Option Value)), fn[g]? = some d → lams[g]? = some true → K.lookup (G.fa g) = some ⟨oc, od, .func fd, osl⟩ → fd.code = cdv → PySem.W.codeIn K cdv d.qual = true →
    ∃ c P, LamX.TabB base mg c P ∧ cdv = .ref c ∧ (P, d.qual ++ ".<locals>." ++ "<lambda>") ∈ G.T ∧ ∀ q ∈ G.T, q.1 = P → q.2 = d.qual ++ ".<locals>." ++ "<lambda>"
  gfn : ∀ x g m, S.gv.lookup x = some (.fn g m) → mg x = some (.ref (G.fa g)) ∧ ∃ f, P[g]? = some f ∧ f.ps = m
  cst : ∀ x d, S.gv.lookup x = some (.cst d) → ∃ u v, mg x = some u ∧ RelV v u ∧ ∀ π H, Rp G π H d v
  exc : ∀ x c, S.gv.lookup x = some (.exc c) → mg x = some (.ref (G.ca c)) ∧ PySem.W.excIn K (G.ca c) He.veBase "ValueError.__new__" = true ∧ PySem.W.keepIn K (.ref (G.ca c)) = true ∧ PySem.W.subIn K (.ref (G.ca c)) (.type "BaseException") = some true ∧ PySem.W.typeIn K (.ref (G.ca c)) = some (.type "type")
  sub : ∀ a b, a < S.n → b < S.n → PySem.W.exmOne K (.ref (G.ca a)) (.ref (G.ca b)) = some (S.sub a b)
  err : ∀ x n h ret, S.gv.lookup x = some (.err n h ret) → ∀ (X : Cx) (k : Nat), X.prog = prog → X.w = w → X.K = K → X.mg = mg → X.base = base → ErrRule X G k x n h ret
  bl : ∀ x ∈ S.bl, mg x = none
section
variable {prog : Program} {w : World} {K : PySem.W.Frag} {mg : Str → Option Value} {base : Heap} {G : Gm} {S : Sta} {fn : List He.DefD} {Ns : List (List Str)} {P : List Def} {lams : List Bool}
theorem sp_false {cl : List D → Mem → R D} {n : Nat} (h : ∀ ds M, cl ds M = .bad) {vs : List V} {H : Hp} {Q : VK} {E : XK} (z : spD G cl n vs H Q E) : False := by
  obtain ⟨_, π, M, ds, _, _, z⟩ := z
  rw [h] at z
  exact z
/-- every def, at every depth -/
theorem fns_ok (Z : Wd prog w K mg base G S fn Ns P lams) : ∀ (k g : Nat) (f : Def) (d : He.DefD) (N : List Str) (lam : Bool) (fd : FuncData), P[g]? = some f → fn[g]? = some d → Ns[g]? = some N → lams[g]? = some lam → DefOk S d N f lam → FunD K d.name d.qual d.params d.body d.scope [] (d.kws K) (G.fa g) fd →
    FnOk prog w K mg base (L2.CX prog w) (F0 k) (G.fa g) fd (N.take f.ps) (spD G (callD P k g) f.ps) := by
  intro k
  induction k with
  | zero =>
    intro g f d N lam fd hf h1 h2 h3 o F
    exact ⟨fun vs H Q E z => (sp_false (fun _ _ => rfl) z).elim, fun A outer s H args us vs Q E _ _ _ _ z => (sp_false (fun _ _ => rfl) z).elim⟩
  | succ k ih =>
    intro g f d N lam fd hf h1 h2 h3 o F
    have hlt : (N.take f.ps).length = f.ps := by rw [List.length_take]; have := o.ps; omega
    obtain ⟨oc, od, dV, kV, doc, pm, an, cdv, ct, osl, rfl, lk, hcd, _, _⟩ := F.ex
    show FnOk prog w K mg base (L2.CX prog w) (3 * k + 2 + 1) _ _ _ _
    refine fn_of lk hcd o.sc (fun vs H Q E z => by rw [hlt]; exact z.1) fun A outer s H vs Q E hr hsp => ?_
    obtain ⟨hlen, π, M, ds, hm, hrs, hp⟩ := hsp
    have hds : ds.length = f.ps := by rw [hrs.length]; exact hlen
    have hcall : callD P (k + 1) g ds M = (evSs (callD P k) f.body (ds.map some ++ List.replicate (f.n - f.ps) none) M).toR := by
      show (match P[g]? with
        | some f => match decide (ds.length = f.ps) with
          | true => (evSs (callD P k) f.body (ds.map some ++ List.replicate (f.n - f.ps) none) M).toR
          | false => .bad
        | none => .bad) = _
      rw [hf]
      simp only [hds, decide_true]
    rw [hcall] at hp
    have C : SCtx { S with lam := lam } (cxOf (L2.CX prog w) prog w K mg base N d.qual d.scope (G.fa g) cdv A outer s H E) G N d.scope (callD P k) (F0 k) (fun cv dx _ H' => E cv dx H') := by
      refine ⟨⟨Z.hK, rfl, o.sc.nd, fun x kd h => ⟨fun _ => h, fun hk => .inl (by rw [← hk]; exact h)⟩, rfl, hr.mono (by unfold F0; omega), takes_of rfl rfl rfl rfl, fun x h => rfl, ⟨fun x gg m h => ?_, Z.cst, Z.exc, Z.sub, fun x n h ret hx => ?_, Z.bl⟩, fun hl hg => ⟨hr, ?_⟩⟩, rfl, o.sc.kind, passes_of rfl, rfl, rfl⟩
      · obtain ⟨q1, f', q2, q3⟩ := Z.gfn x gg m h
        obtain ⟨d', N', lam', r1, r2, r3, o'⟩ := Z.ok gg f' q2
        obtain ⟨fd', F'⟩ := Z.fd gg d' r1
        rw [show d'.dvs K = [] by unfold He.DefD.dvs; rw [o'.dfl]; rfl] at F'
        subst q3
        exact ⟨q1, F'.kp, fd', N'.take f'.ps, ih gg f' d' N' lam' fd' q2 r1 r2 r3 o' F', F'.bindsN o'.bnd⟩
      · exact Z.err x n h ret hx _ _ rfl rfl rfl rfl rfl
      · have hl : lam = true := hl
        subst hl
        obtain ⟨c, P', t1, rfl, t3, t4⟩ := Z.lam g d cdv oc od _ osl h1 h3 lk rfl hcd
        exact ⟨c, P', t1, rfl, t3, t4⟩
    exact ⟨_, (sndS_all _ N d.scope 60).ss C o.tr, π, M, _, env_start hrs hlen o.n o.ps, hm, pF_of hp fun _ _ _ _ h => h⟩
end
end DL

/-! DL: a law's row -/
namespace DL
open PySem PySem.Spec PyProof.Rows L2
/-! ### constants of the module -/
mutual
def cstK (K : PySem.W.Frag) : Nat → D → Value → Bool
  | 0, _, _ => false
  | n + 1, d, u => match d with
    | .non => match u with
      | .none => true
      | _ => false
    | .bl b => match u with
      | .bool c => b == c
      | _ => false
    | .int i => match u with
      | .int j _ => decide (i = j)
      | _ => false
    | .str x => match u with
      | .str y _ => decide (x = y) && (PyData.strOk x && decide (x.length ≤ sizeLine))
      | _ => false
    | .tup ds => match u with
      | .ref a => match K.lookup a with
        | some ⟨.type c, _, .seq its _, _⟩ => decide (c = "tuple") && (decide (its.size ≤ sizeLine) && cstKs K n ds its.toList)
        | _ => false
      | _ => false
    | _ => false
def cstKs (K : PySem.W.Frag) : Nat → List D → List Value → Bool
  | 0, _, _ => false
  | n + 1, ds, us => match ds with
    | [] => match us with
      | [] => true
      | _ => false
    | d :: r => match us with
      | [] => false
      | u :: s => cstK K n d u && cstKs K n r s
end
mutual
theorem cstK_ok {G : Gm} : ∀ {n : Nat} {d : D} {u : Value}, cstK G.K n d u = true → ∃ v, RelV v u ∧ ∀ π H, Rp G π H d v
  | 0, d, u, h => by cases h
  | n + 1, d, u, h => by
    cases d with
    | non => cases u <;> first | exact ⟨.non, rfl, fun _ _ => .non⟩ | cases h
    | bl b => cases u with
      | bool c => have e : (b == c) = true := h; rw [eq_of_beq e]; exact ⟨.bl c, rfl, fun _ _ => .bl c⟩
      | _ => cases h
    | int i => cases u with
      | int j t => have e : decide (i = j) = true := h; rw [of_decide_eq_true e]; exact ⟨.int j, ⟨_, rfl⟩, fun _ _ => .int j⟩
      | _ => cases h
    | str x => cases u with
      | str y t =>
        have e : (decide (x = y) && (PyData.strOk x && decide (x.length ≤ sizeLine))) = true := h
        simp only [Bool.and_eq_true, decide_eq_true_eq] at e
        obtain ⟨rfl, e2, e3⟩ := e
        exact ⟨.str x, ⟨_, rfl⟩, fun _ _ => .str x e2 e3⟩
      | _ => cases h
    | tup ds => cases u with
      | ref a =>
        simp only [cstK] at h
        cases q : G.K.lookup a with
        | none => rw [q] at h; cases h
        | some o =>
          obtain ⟨oc, od, dt, osl⟩ := o
          rw [q] at h
          cases oc with
          | type c =>
            cases dt with
            | seq its m =>
              have h : (decide (c = "tuple") && (decide (its.size ≤ sizeLine) && cstKs G.K n ds its.toList)) = true := h
              simp only [Bool.and_eq_true, decide_eq_true_eq] at h
              obtain ⟨rfl, h2, h3⟩ := h
              obtain ⟨vs, r1, r2⟩ := cstKs_ok h3
              exact ⟨.ref a, rfl, fun π H => .tup (.inr ⟨_, its, m, q, rfl, rfl, h2, r1⟩) (r2 π H)⟩
            | _ => cases h
          | _ => cases h
      | _ => cases h
    | _ => cases h
theorem cstKs_ok {G : Gm} : ∀ {n : Nat} {ds : List D} {us : List Value}, cstKs G.K n ds us = true → ∃ vs, Vals vs us ∧ ∀ π H, Rps G π H ds vs
  | 0, ds, us, h => by cases h
  | n + 1, [], us, h => by cases us with
    | nil => exact ⟨[], .nil, fun _ _ => .nil⟩
    | cons _ _ => cases h
  | n + 1, d :: r, us, h => by cases us with
    | nil => cases h
    | cons u s =>
      have h : (cstK G.K n d u && cstKs G.K n r s) = true := h
      obtain ⟨h1, h2⟩ := Bool.and_eq_true_iff.mp h
      obtain ⟨v, a1, a2⟩ := cstK_ok h1
      obtain ⟨vs, b1, b2⟩ := cstKs_ok h2
      exact ⟨v :: vs, .cons a1 b1, fun π H => .cons (a2 π H) (b2 π H)⟩
end
/-! ### what the head is asked -/
def faGv : Str × GV → List He.Fa
  | (x, .fn _ _) => [.glo x]
  | (x, .exc _) => [.glo x, .exc x]
  | (x, .err _ _ _) => [.glo x]
  | (_, .cst _) => []
def xcPairs (xc : List Str) : List (Nat × Nat) := (List.range xc.length).flatMap fun i => (List.range xc.length).map fun j => (i, j)
def faOf (S : Sta) (xc : List Str) : List He.Fa := S.gv.flatMap faGv ++ (S.bl.map He.Fa.free ++ (xcPairs xc).map fun p => .exm (xc.getD p.1 Str.empty) (xc.getD p.2 Str.empty) (S.sub p.1 p.2))
def exCst (S : Sta) (K : PySem.W.Frag) : Bool := S.gv.all fun p => match p.2 with
  | .cst d => match PySem.W.nsIn K mainGlobals p.1 with
    | some (some u) => cstK K 40 d u
    | _ => false
  | _ => true
def exTab (tf : List (He.Defn × Str)) (K : PySem.W.Frag) : Bool := decide ((tf.map fun p => (He.cT K p.1).2).Nodup)
def exOf (S : Sta) (tf : List (He.Defn × Str)) (K : PySem.W.Frag) : Bool := exCst S K && exTab tf K
def lamNm (q : Str) : Str := q ++ ".<locals>." ++ "<lambda>"
def GM (K : PySem.W.Frag) (fn : List He.DefD) (xc : List Str) (tf : List (He.Defn × Str)) (a : Addr) (ns : List Int) : Gm :=
  ⟨K, fun g => match fn[g]? with
    | some d => He.fAd K d.at_
    | none => 0, fun c => He.ga K (xc.getD c Str.empty), tf.map fun p => ((He.cT K p.1).2, lamNm p.2), a, ns⟩
/-! ### the row's own facts -/
inductive Defs (S : Sta) : List He.DefD → List (List Str) → List Bool → List Def → Prop
  | nil {l : List He.DefD} : Defs S l [] [] []
  | cons {d : He.DefD} {N : List Str} {f : Def} {lam : Bool} {ds : List He.DefD} {Ns : List (List Str)} {ls : List Bool} {P : List Def} : DefOk S d N f lam → Defs S ds Ns ls P → Defs S (d :: ds) (N :: Ns) (lam :: ls) (f :: P)
theorem Defs.at {S : Sta} : ∀ {fn : List He.DefD} {Ns : List (List Str)} {lams : List Bool} {P : List Def}, Defs S fn Ns lams P → ∀ (g : Nat) (f : Def), P[g]? = some f → ∃ d N lam, fn[g]? = some d ∧ Ns[g]? = some N ∧ lams[g]? = some lam ∧ DefOk S d N f lam
  | _, _, _, _, .nil, g, f, h => by simp at h
  | _, _, _, _, .cons o r, 0, f, h => by
    cases h
    exact ⟨_, _, _, rfl, rfl, rfl, o⟩
  | _, _, _, _, .cons o r, g + 1, f, h => by
    obtain ⟨d, N, lam, h1, h2, h3, h4⟩ := Defs.at r g f (by simpa using h)
    exact ⟨d, N, lam, by simpa using h1, by simpa using h2, by simpa using h3, h4⟩
/-- a def that calls what it gets, tells errors -/
structure ErrD (S : Sta) (fn : List He.DefD) (x : Str) (n : Nat) (l : List (List Nat × D)) (r : D) : Prop where
  ex : ∃ (g : Nat) (d : He.DefD) (a ret : Str) (Ng : List Str) (j : Nat) (p1 p2 p3 p4 p5 p6 : Pos) (h0 : ExceptHandler) (hs : List ExceptHandler), fn[g]? = some d ∧ d.at_ = (x, none) ∧ d.name = x ∧ d.qual = x ∧ d.dfl = [] ∧
    d.body = [.Try [.Expr (.Call (.Name a p1) [] [] p2) p3] (h0 :: hs) [] [] p4, .Return (some (.Constant (.str ret) j p5)) p6] ∧ FnScope Ng [a] d.scope ∧ Ng[0]? = some a ∧ Vis d.scope a ∧ hdsOf S d.scope (h0 :: hs) = some l ∧ n = S.n ∧ r = .str ret ∧
    PyData.strOk ret = true ∧ ret.length ≤ sizeLine ∧ (x == ("__debug__" : Str)) = false ∧ (a == ("__debug__" : Str)) = false ∧ (a == ("__classdict__" : Str)) = false ∧
    ∀ (kV doc pm : Value) (an : Option Addr) (cdv ct : Value) (us : List Value), us.length = [a].length → bindArgs (PySem.W.fnOf d.name d.qual d.params d.body d.scope .none kV doc pm an cdv ct) ⟨us, []⟩ = pure ([a].zip us)
def ErrP (S : Sta) (fn : List He.DefD) (p : Str × GV) : Prop := match p.2 with
  | .err n l r => ErrD S fn p.1 n l r
  | _ => True
inductive AllP {α : Type} (Q : α → Prop) : List α → Prop
  | nil : AllP Q []
  | cons {a : α} {l : List α} : Q a → AllP Q l → AllP Q (a :: l)
theorem AllP.at {α : Type} {Q : α → Prop} : ∀ {l : List α}, AllP Q l → ∀ a ∈ l, Q a
  | _, .cons h r, a, m => by
    rcases List.mem_cons.mp m with rfl | m
    · exact h
    · exact r.at a m
def gvB (S : Sta) (fn : List He.DefD) (P : List Def) (xc : List Str) : Bool := S.gv.all fun p => match p.2 with
  | .fn g m => match fn[g]? with
    | some d => match P[g]? with
      | some f => decide (d.at_ = (p.1, none)) && decide (f.ps = m)
      | none => false
    | none => false
  | .exc c => decide (xc[c]? = some p.1)
  | _ => true
def lamB (fn : List He.DefD) (lams : List Bool) (tf : List (He.Defn × Str)) : Bool := (fn.zip lams).all fun p => !p.2 || decide ((p.1.at_, p.1.qual) ∈ tf)
/-- all that is known of the row's text -/
structure RowOk (S : Sta) (fn : List He.DefD) (Ns : List (List Str)) (lams : List Bool) (P : List Def) (xc : List Str) (tf : List (He.Defn × Str)) : Prop where
  defs : Defs S fn Ns lams P
  errs : AllP (ErrP S fn) S.gv
  gv : gvB S fn P xc = true
  n : S.n = xc.length
  lam : lamB fn lams tf = true
section
variable {S : Sta} {fn : List He.DefD} {Ns : List (List Str)} {lams : List Bool} {P : List Def} {xc : List Str} {tf : List (He.Defn × Str)} {K : PySem.W.Frag} {mg : Str → Option Value} {base h : Heap} {w : World} {prog : Program} {a : Addr} {ns : List Int}
theorem GM_fa {g : Nat} {d : He.DefD} (e : fn[g]? = some d) : (GM K fn xc tf a ns).fa g = He.fAd K d.at_ := by
  show (match fn[g]? with
    | some d => He.fAd K d.at_
    | none => 0) = _
  rw [e]
theorem fa_mem {p : Str × GV} {f : He.Fa} (hp : p ∈ S.gv) (hf : f ∈ faGv p) : f ∈ faOf S xc := List.mem_append.mpr (.inl (List.mem_flatMap.mpr ⟨p, hp, hf⟩))
theorem wd_of (R : RowOk S fn Ns lams P xc tf) (c : He.SaysX (faOf S xc) fn [] (tf.map (·.1)) (exOf S tf) w h K) (KX : K.In base) (Gb : base.Ns mainGlobals mg) (TB : ∀ p ∈ (tf.map (·.1)).map (He.cT K), LamX.TabB base mg p.1 p.2) : Wd prog w K mg base (GM K fn xc tf a ns) S fn Ns P lams := by
  have cd : He.SaysD (faOf S xc) fn K := congrArg (fun z : He.AlT => z.1) c.t
  obtain ⟨m1, m2⟩ := Bool.and_eq_true_iff.mp c.more
  have hgv := List.all_eq_true.mp R.gv
  refine ⟨rfl, fun g d hd => ?_, R.defs.at, fun g d cdv oc od fd osl hd hl lk hc hci => ?_, fun x g m hx => ?_, fun x d hx => ?_, fun x c' hx => ?_, fun i j hi hj => ?_, fun x n l ret hx X k e1 e2 e3 e4 e5 => ?_, fun x hx => ?_⟩
  · rw [GM_fa hd]
    exact cd.defs (List.mem_of_getElem? hd)
  · rw [GM_fa hd] at lk
    subst hc
    obtain ⟨cc, hcc⟩ := He.codeIn_ref hci
    have hco := He.codeOf_eq lk hcc
    have hin : (d.at_, d.qual) ∈ tf := by
      have z := List.all_eq_true.mp R.lam (d, true) (List.mem_iff_getElem?.mpr ⟨g, by rw [List.getElem?_zip_eq_some]; exact ⟨hd, hl⟩⟩)
      simpa using z
    have hin2 : He.cT K d.at_ ∈ (tf.map (·.1)).map (He.cT K) := List.mem_map.mpr ⟨_, List.mem_map.mpr ⟨_, hin, rfl⟩, rfl⟩
    have t := TB _ hin2
    refine ⟨(He.cT K d.at_).1, (He.cT K d.at_).2, t, ?_, List.mem_map.mpr ⟨_, hin, rfl⟩, fun q hq e => ?_⟩
    · rw [hcc]
      exact congrArg Value.ref hco.symm
    · obtain ⟨p, hp, rfl⟩ := List.mem_map.mp hq
      have hnd := of_decide_eq_true m2
      have e : (He.cT K p.1).2 = (He.cT K d.at_).2 := e
      have : p = (d.at_, d.qual) := by
        obtain ⟨i, hi, ei⟩ := List.mem_iff_getElem.mp hp
        obtain ⟨j, hj, ej⟩ := List.mem_iff_getElem.mp hin
        have q1 : (tf.map fun p => (He.cT K p.1).2)[i]'(by simpa using hi) = (tf.map fun p => (He.cT K p.1).2)[j]'(by simpa using hj) := by
          rw [List.getElem_map, List.getElem_map, ei, ej]; exact e
        have q2 := (List.getElem_inj hnd).mp q1
        subst q2
        rw [← ei, ej]
      rw [this]
      rfl
  · have hm := PySem.mem_of_lookup hx
    have z := hgv _ hm
    have e1 := cd.facts (fa_mem (xc := xc) hm (List.mem_singleton.mpr rfl))
    simp only at z
    cases q1 : fn[g]? with
    | none => rw [q1] at z; cases z
    | some d =>
      rw [q1] at z
      simp only at z
      cases q2 : P[g]? with
      | none => rw [q2] at z; cases z
      | some f =>
        rw [q2] at z
        simp only [Bool.and_eq_true, decide_eq_true_eq] at z
        refine ⟨?_, f, rfl, z.2⟩
        rw [GM_fa q1, z.1]
        exact He.glo_ok KX Gb e1
  · have hm := PySem.mem_of_lookup hx
    have z := List.all_eq_true.mp m1 _ hm
    simp only at z
    cases q : PySem.W.nsIn K mainGlobals x with
    | none => rw [q] at z; cases z
    | some o =>
      cases o with
      | none => rw [q] at z; cases z
      | some u =>
        rw [q] at z
        obtain ⟨v, r1, r2⟩ := cstK_ok (G := GM K fn xc tf a ns) z
        exact ⟨u, v, PySem.W.mg_of KX Gb q, r1, r2⟩
  · have hm := PySem.mem_of_lookup hx
    have z := hgv _ hm
    simp only [decide_eq_true_eq] at z
    have e : xc.getD c' Str.empty = x := by rw [List.getD_eq_getElem?_getD, z]; rfl
    have e1 := cd.facts (fa_mem (xc := xc) hm (List.mem_cons_self))
    have e2 := cd.facts (fa_mem (xc := xc) hm (List.mem_cons_of_mem _ (List.mem_singleton.mpr rfl)))
    obtain ⟨r1, r2, r3, r4⟩ := He.exc_ok e2
    show mg x = some (.ref (He.ga K (xc.getD c' Str.empty))) ∧ PySem.W.excIn K (He.ga K (xc.getD c' Str.empty)) He.veBase "ValueError.__new__" = true ∧ PySem.W.keepIn K (.ref (He.ga K (xc.getD c' Str.empty))) = true ∧ PySem.W.subIn K (.ref (He.ga K (xc.getD c' Str.empty))) (.type "BaseException") = some true ∧ PySem.W.typeIn K (.ref (He.ga K (xc.getD c' Str.empty))) = some (.type "type")
    rw [e]
    exact ⟨He.glo_ok KX Gb e1, r1, r2, r3, r4⟩
  · have hm : He.Fa.exm (xc.getD i Str.empty) (xc.getD j Str.empty) (S.sub i j) ∈ faOf S xc := by
      refine List.mem_append.mpr (.inr (List.mem_append.mpr (.inr (List.mem_map.mpr ⟨(i, j), ?_, rfl⟩))))
      rw [R.n] at hi hj
      exact List.mem_flatMap.mpr ⟨i, List.mem_range.mpr hi, List.mem_map.mpr ⟨j, List.mem_range.mpr hj, rfl⟩⟩
    exact He.exm_ok (cd.facts hm)
  · have hm := PySem.mem_of_lookup hx
    obtain ⟨g, d, a', rt, Ng, j, p1, p2, p3, p4, p5, p6, h0, hs, q1, q2, q3, q4, q5, q6, q7, q8, q9, q10, q11, rfl, q13, q14, q15, q16, q17, q18⟩ := (R.errs.at _ hm).ex
    obtain ⟨fd, F⟩ := cd.defs (List.mem_of_getElem? q1)
    rw [show d.dvs K = [] by unfold He.DefD.dvs; rw [q5]; rfl] at F
    have hb := F.bindsN q18
    have e1 := cd.facts (fa_mem (xc := xc) hm (List.mem_singleton.mpr rfl))
    have hg := He.glo_ok KX Gb e1
    have hkp := F.kp
    obtain ⟨oc, od, dV, kV, doc, pm, an, cdv, ct, osl, rfl, lk, hcd, _, _⟩ := F.ex
    have efa : He.fAd K d.at_ = He.ga K x := by rw [q2]; rfl
    rw [efa] at lk hkp
    rw [q3, q4, q6] at lk hb
    rw [q4] at hcd
    subst q11
    have hex : ∀ y c, S.gv.lookup y = some (.exc c) → X.mg y = some (.ref ((GM K fn xc tf a ns).ca c)) := fun y c hy => by
      have hm := PySem.mem_of_lookup hy
      have z := hgv _ hm
      simp only [decide_eq_true_eq] at z
      have e : xc.getD c Str.empty = y := by rw [List.getD_eq_getElem?_getD, z]; rfl
      show X.mg y = some (.ref (He.ga K (xc.getD c Str.empty)))
      rw [e, e4]
      exact He.glo_ok KX Gb (cd.facts (fa_mem (xc := xc) hm (List.mem_cons_self)))
    have hsub : ∀ i j, i < S.n → j < S.n → PySem.W.exmOne X.K (.ref ((GM K fn xc tf a ns).ca i)) (.ref ((GM K fn xc tf a ns).ca j)) = some (S.sub i j) := fun i j hi hj => by
      have hm : He.Fa.exm (xc.getD i Str.empty) (xc.getD j Str.empty) (S.sub i j) ∈ faOf S xc := by
        refine List.mem_append.mpr (.inr (List.mem_append.mpr (.inr (List.mem_map.mpr ⟨(i, j), ?_, rfl⟩))))
        rw [R.n] at hi hj
        exact List.mem_flatMap.mpr ⟨i, List.mem_range.mpr hi, List.mem_map.mpr ⟨j, List.mem_range.mpr hj, rfl⟩⟩
      rw [e3]
      exact He.exm_ok (cd.facts hm)
    rw [← e3] at lk hkp hcd hb hg
    rw [← e4] at hg
    exact err_rule e3.symm hg hkp lk hcd hb q7 q8 q9 q10 hex hsub q13 q14 q15 q16 q17
  · exact He.free_ok KX Gb (cd.facts (List.mem_append.mpr (.inr (List.mem_append.mpr (.inl (List.mem_map.mpr ⟨x, hx, rfl⟩))))))
/-! ### the law -/
theorem fnOk_ex {ι : Type} {prog : Program} {w : World} {K : PySem.W.Frag} {mg : Str → Option Value} {base : Heap} {CX : CXT} {k : Nat} {f : Addr} {fd : FuncData} {ps : List Str} {sp : ι → Sp} {sp' : Sp} (i0 : ι) (F : ∀ i, FnOk prog w K mg base CX k f fd ps (sp i)) (h : ∀ vs H Q E, sp' vs H Q E → ∃ i, sp i vs H Q E) : FnOk prog w K mg base CX k f fd ps sp' :=
  ⟨fun vs H Q E z => let ⟨i, z⟩ := h _ _ _ _ z; (F i).len _ _ _ _ z, fun A outer s H args us vs Q E hr e0 hb r z => let ⟨i, z⟩ := h _ _ _ _ z; (F i).run A outer s H args us vs Q E hr e0 hb r z⟩
def spLaw (K : PySem.W.Frag) (fn : List He.DefD) (xc : List Str) (tf : List (He.Defn × Str)) (P : List Def) (kk gl : Nat) : Sp := fun vs H Q E => ∃ p : Addr × List Int, spD (GM K fn xc tf p.1 p.2) (callD P kk gl) 1 vs H Q E
/-- the end of the row -/
theorem law_at {l : PySem.W.OpenLaw} {n kk gl : Nat} {x : Str} {fa : Addr} {d : He.DefD} {N : List Str} {lam : Bool} {f : Def} (R : RowOk S fn Ns lams P xc tf) (KX : K.In h) (c : He.SaysX (faOf S xc) fn [] (tf.map (·.1)) (exOf S tf) w h K)
    (hfa : fa = He.fAd K d.at_) (hd : fn[gl]? = some d) (hf : P[gl]? = some f) (hN : Ns[gl]? = some N) (hps : N.take f.ps = [x]) (h1 : f.ps = 1)
    (hlaw : ∀ ns : List Int, ns.length ≤ n → (∀ z ∈ ns, Builtin.Int.intBits z ≤ 1048576) → ∃ M', callD P kk gl [.ro (ns.map .int)] [] = .ok (.bl true) M') : LamX.LawAtS l w K (L2.CX l.prog w) (F0 kk) n x mg fa h := by
  have cd : He.SaysD (faOf S xc) fn K := congrArg (fun z : He.AlT => z.1) c.t
  obtain ⟨d', N', lam', r1, r2, r3, o⟩ := R.defs.at gl f hf
  rw [hd] at r1
  cases r1
  rw [hN] at r2
  cases r2
  obtain ⟨fd, F⟩ := cd.defs (List.mem_of_getElem? hd)
  rw [show d.dvs K = [] by unfold He.DefD.dvs; rw [o.dfl]; rfl] at F
  refine ⟨fd, (tf.map (·.1)).map (He.cT K), spLaw K fn xc tf P kk gl, fun p hp => ?_, fun p hp => ?_, fun p hp => ?_, fun s u => ?_, fun H a ns hl hb hT hS => ?_, fun base KB GB TB => ?_⟩
  · obtain ⟨q, hq, rfl⟩ := List.mem_map.mp hp
    exact c.empty q hq
  · obtain ⟨q, hq, rfl⟩ := List.mem_map.mp hp
    exact c.out q hq
  · obtain ⟨q, hq, rfl⟩ := List.mem_map.mp hp
    exact PySem.W.codeHd_of_K KX (c.hd q hq)
  · have hb := F.bindsA o.bnd s [u] (by rw [hps]; rfl)
    rw [hps] at hb
    exact hb
  · obtain ⟨M', hM⟩ := hlaw ns hl hb
    refine ⟨(a, ns), rfl, [], [], [.ro (ns.map .int)], ⟨List.nodup_nil, rfl, fun n c a h => by simp at h, fun p hp => ?_, ?_⟩, .cons .ro .nil, ?_⟩
    · obtain ⟨q, hq, rfl⟩ := List.mem_map.mp hp
      exact LamX.TabS.nil (hT _ (List.mem_map.mpr ⟨_, List.mem_map.mpr ⟨_, hq, rfl⟩, rfl⟩))
    · rcases hS with hS | hS
      · rcases hS with hS | hS
        · exact .inr (.inr ⟨hS, by simp⟩)
        · exact .inr (.inl hS)
      · exact .inl hS
    · rw [hM]
      intro π' v H' x m r
      cases r
      rfl
  · subst hfa
    have hW := fun i : Addr × List Int => wd_of (a := i.1) (ns := i.2) (prog := l.prog) (w := w) R c KB GB TB
    have key := fun i : Addr × List Int => fns_ok (hW i) kk gl f d N lam' fd hf hd hN r3 o (by rw [GM_fa hd]; exact F)
    rw [hps] at key
    refine fnOk_ex (0, []) (fun i => ?_) fun vs H Q E z => z
    have := key i
    rw [GM_fa hd, h1] at this
    exact this
theorem cx_false {prog : Program} {w : World} (H : Hp) (s : Shared) (e : Value) (s' : Shared) (h : L2.CX prog w [] H s (fun _ _ _ => False) e s') : False := by
  obtain ⟨_, _, _, _, _, _, _, _, _, _, _, _, z⟩ := h
  exact z
end
end DL

/-! DL: what is evaluated in an empty memory goes the same in any -/
namespace DL
open PySem
mutual
def sh (n : Nat) : D → D
  | .tup ds => .tup (shs n ds)
  | .ro ds => .ro (shs n ds)
  | .loc l => .loc (n + l)
  | .non => .non
  | .bl b => .bl b
  | .int i => .int i
  | .str s => .str s
  | .fn g => .fn g
def shs (n : Nat) : List D → List D
  | [] => []
  | d :: r => sh n d :: shs n r
end
def shC (n : Nat) : Cell → Cell
  | .lst ds => .lst (shs n ds)
  | .ins c fs => .ins c (fs.map fun p => (p.1, sh n p.2))
  | .dik kvs => .dik (kvs.map fun p => (p.1, sh n p.2))
theorem shs_map (n : Nat) : ∀ ds : List D, shs n ds = ds.map (sh n)
  | [] => rfl
  | d :: r => by rw [shs, shs_map n r]; rfl
/-- memories: some cells ahead -/
def mm (M0 : Mem) (M : Mem) : Mem := M0 ++ M.map (shC M0.length)
/-- r is r0, moved -/
def RG {α : Type} (M0 : Mem) (s : α → α) (r0 r : R α) : Prop := match r0 with
  | .ok a M => r = .ok (s a) (mm M0 M)
  | .exc e M => r = .exc ⟨e.c, e.d.map (sh M0.length)⟩ (mm M0 M)
  | .bad => True
section
variable {M0 : Mem} {M : Mem}
theorem RG.bind {α β : Type} {s : α → α} {s2 : β → β} {r0 r : R α} {f0 f : α → Mem → R β} (h : RG M0 s r0 r) (k : ∀ a M, RG M0 s2 (f0 a M) (f (s a) (mm M0 M))) : RG M0 s2 (r0.bind f0) (r.bind f) := by
  cases r0 with
  | ok a M => rw [show r = _ from h]; exact k a M
  | exc e M => rw [show r = _ from h]; exact rfl
  | bad => trivial
theorem RG.opt {α : Type} {s : α → α} {o0 o : Option α} (h : ∀ a, o0 = some a → o = some (s a)) : RG M0 s (opt o0 M) (opt o (mm M0 M)) := by
  cases o0 with
  | none => trivial
  | some a => rw [h a rfl]; exact rfl
theorem RG.chk {α : Type} {s : α → α} {b0 b : Bool} {r0 r : R α} (e : b0 = b) (h : RG M0 s r0 r) : RG M0 s (chk b0 r0) (chk b r) := by
  subst e
  cases b0 with
  | true => exact h
  | false => trivial
theorem RG.bad {α : Type} {s : α → α} {r : R α} : RG M0 s .bad r := trivial
theorem mm_len : (mm M0 M).length = M0.length + M.length := by simp [mm]
theorem mm_at (l : Nat) : (mm M0 M)[M0.length + l]? = (M[l]?).map (shC M0.length) := by
  unfold mm
  rw [List.getElem?_append_right (by omega), List.getElem?_map]
  simp
theorem mm_app (c : Cell) : mm M0 M ++ [shC M0.length c] = mm M0 (M ++ [c]) := by simp [mm]
theorem mm_set (l : Nat) (c : Cell) : (mm M0 M).set (M0.length + l) (shC M0.length c) = mm M0 (M.set l c) := by
  unfold mm
  rw [List.set_append_right _ _ (by omega), List.map_set]
  simp
theorem lstOf_mm (l : Nat) : lstOf (mm M0 M) (M0.length + l) = (lstOf M l).map (shs M0.length) := by
  unfold lstOf
  rw [mm_at]
  cases M[l]? with
  | none => rfl
  | some c => cases c <;> rfl
theorem items_mm (d : D) : items (mm M0 M) (sh M0.length d) = (items M d).map (shs M0.length) := by
  cases d with
  | loc l => exact lstOf_mm l
  | _ => rfl
theorem shs_len (n : Nat) : ∀ ds : List D, (shs n ds).length = ds.length
  | [] => rfl
  | d :: r => by rw [shs, List.length_cons, List.length_cons, shs_len n r]
theorem shs_get (n : Nat) : ∀ (ds : List D) (i : Nat), (shs n ds)[i]? = (ds[i]?).map (sh n)
  | [], i => by simp [shs]
  | d :: r, 0 => rfl
  | d :: r, i + 1 => by rw [shs]; simpa using shs_get n r i
theorem shs_app (n : Nat) (ds es : List D) : shs n (ds ++ es) = shs n ds ++ shs n es := by simp [shs_map]
theorem shs_set (n : Nat) (ds : List D) (i : Nat) (d : D) : shs n (ds.set i d) = (shs n ds).set i (sh n d) := by simp [shs_map, List.map_set]
theorem shs_take (n k : Nat) (ds : List D) : shs n (ds.take k) = (shs n ds).take k := by simp [shs_map]
theorem shs_drop (n k : Nat) (ds : List D) : shs n (ds.drop k) = (shs n ds).drop k := by simp [shs_map]
theorem shs_emp (n : Nat) (ds : List D) : (shs n ds).isEmpty = ds.isEmpty := by cases ds <;> rfl
theorem shs_rep (n : Nat) (ds : List D) : ∀ k, shs n (List.replicate k ds).flatten = (List.replicate k (shs n ds)).flatten
  | 0 => rfl
  | k + 1 => by rw [List.replicate_succ, List.replicate_succ, List.flatten_cons, List.flatten_cons, shs_app, shs_rep n ds k]
theorem mapO_mm {f g : D → Option PyData} (h : ∀ d, f (sh M0.length d) = g d) : ∀ ds : List D, mapO f (shs M0.length ds) = mapO g ds
  | [] => rfl
  | d :: r => by
    show (match f (sh M0.length d) with
      | some p => match mapO f (shs M0.length r) with
        | some ps => some (p :: ps)
        | none => none
      | none => none) = _
    rw [h d, mapO_mm h r]
    rfl
theorem toP0_sh (d : D) : toP0 (sh M0.length d) = toP0 d := by cases d <;> rfl
theorem toP_mm : ∀ (k : Nat) (d : D), toP (mm M0 M) k (sh M0.length d) = toP M k d
  | 0, d => toP0_sh d
  | k + 1, d => by
    cases d with
    | tup ds =>
      show (mapO (toP (mm M0 M) k) (shs M0.length ds)).map _ = (mapO (toP M k) ds).map _
      rw [mapO_mm fun d => toP_mm k d]
    | loc l =>
      show (match lstOf (mm M0 M) (M0.length + l) with
        | some ds => (mapO (toP (mm M0 M) k) ds).map PyData.list
        | none => none) = match lstOf M l with
        | some ds => (mapO (toP M k) ds).map PyData.list
        | none => none
      rw [lstOf_mm]
      cases lstOf M l with
      | none => rfl
      | some ds =>
        show (mapO (toP (mm M0 M) k) (shs M0.length ds)).map _ = (mapO (toP M k) ds).map _
        rw [mapO_mm fun d => toP_mm k d]
    | _ => rfl
theorem deq_mm (d e : D) : deq (mm M0 M) (sh M0.length d) (sh M0.length e) = deq M d e := by
  unfold deq
  rw [toP_mm, toP_mm]
theorem truth_mm (d : D) : truth (mm M0 M) (sh M0.length d) = truth M d := by
  cases d with
  | loc l =>
    show (lstOf (mm M0 M) (M0.length + l)).map _ = (lstOf M l).map _
    rw [lstOf_mm]
    cases lstOf M l with
    | none => rfl
    | some ds => show some (!(shs M0.length ds).isEmpty) = some (!ds.isEmpty); rw [shs_emp]
  | tup ds => show some (!(shs M0.length ds).isEmpty) = some (!ds.isEmpty); rw [shs_emp]
  | _ => rfl
theorem flat_sh (d : D) : flat (sh M0.length d) = flat d := by cases d <;> rfl
theorem feq_sh (d e : D) : feq (sh M0.length d) (sh M0.length e) = feq d e := by cases d <;> cases e <;> rfl
theorem isIn_mm (d e : D) : isIn (mm M0 M) (sh M0.length d) (sh M0.length e) = isIn M d e := by
  unfold isIn
  rw [items_mm]
  cases items M e with
  | none => rfl
  | some ds =>
    have h1 : (shs M0.length ds).all flat = ds.all flat := by
      rw [shs_map, List.all_map]
      congr 1
      exact funext fun d => flat_sh d
    have h2 : ((shs M0.length ds).any fun y => feq y (sh M0.length d)) = ds.any fun y => feq y d := by
      rw [shs_map, List.any_map]
      congr 1
      exact funext fun y => feq_sh y d
    show (match flat (sh M0.length d) && (shs M0.length ds).all flat with
      | true => some ((shs M0.length ds).any fun y => feq y (sh M0.length d))
      | false => none) = _
    rw [flat_sh, h1, h2]
    try rfl
theorem isNon_sh (d : D) : isNon (sh M0.length d) = isNon d := by cases d <;> rfl
theorem sameB_sh (d e : D) : sameB (sh M0.length d) (sh M0.length e) = sameB d e := by
  cases e with
  | non => show some _ = some _; rw [isNon_sh]
  | bl b => cases d <;> rfl
  | _ => cases d <;> rfl
theorem cmpop_mm (o : COp) (d e : D) : cmpop (mm M0 M) o (sh M0.length d) (sh M0.length e) = cmpop M o d e := by
  cases o with
  | eq => exact deq_mm d e
  | ne => show (deq _ _ _).map _ = _; rw [deq_mm]; rfl
  | is => exact sameB_sh d e
  | isnot => show (sameB _ _).map _ = _; rw [sameB_sh]; rfl
  | isin => exact isIn_mm d e
  | notin => show (isIn _ _ _).map _ = _; rw [isIn_mm]; rfl
  | _ => cases d <;> cases e <;> rfl
theorem bini_sh {o : BOp} {i j : Int} {d : D} (h : bini o i j = some d) : sh M0.length d = d := by
  cases o <;> simp only [bini] at h
  all_goals first
    | (cases h; rfl)
    | (split at h <;> first | (cases h; rfl) | cases h)
theorem unop_mm (o : UOp) (d : D) : ∀ r, unop M o d = some r → unop (mm M0 M) o (sh M0.length d) = some (sh M0.length r) := by
  intro r h
  cases o with
  | neg => cases d <;> cases h; rfl
  | not =>
    have e : ∀ (M : Mem) (d : D), unop M .not d = (truth M d).map fun b => .bl (!b) := fun M d => by cases d <;> rfl
    rw [e] at h ⊢
    rw [truth_mm]
    cases q : truth M d with
    | none => rw [q] at h; cases h
    | some b => rw [q] at h; cases h; rfl
theorem binop_mm (o : BOp) (d e : D) : RG M0 (sh M0.length) (binop M o d e) (binop (mm M0 M) o (sh M0.length d) (sh M0.length e)) := by
  cases d with
  | int i =>
    cases e with
    | int j => exact RG.opt fun a h => by rw [bini_sh h]; exact h
    | _ => exact RG.bad
  | tup xs =>
    cases e with
    | tup ys =>
      cases o with
      | add =>
        show RG M0 (sh M0.length) (DL.chk (decide (xs.length + ys.length ≤ line)) (R.ok (D.tup (xs ++ ys)) M)) (DL.chk (decide ((shs M0.length xs).length + (shs M0.length ys).length ≤ line)) (R.ok (D.tup (shs M0.length xs ++ shs M0.length ys)) (mm M0 M)))
        rw [shs_len, shs_len, ← shs_app]
        exact RG.chk rfl rfl
      | _ => exact RG.bad
    | int k =>
      cases o with
      | mul =>
        show RG M0 (sh M0.length) (DL.chk (decide (xs.length * k.toNat ≤ line) && (decide (2 ≤ k) && !xs.isEmpty)) (R.ok (D.tup (List.replicate k.toNat xs).flatten) M)) (DL.chk (decide ((shs M0.length xs).length * k.toNat ≤ line) && (decide (2 ≤ k) && !(shs M0.length xs).isEmpty)) (R.ok (D.tup (List.replicate k.toNat (shs M0.length xs)).flatten) (mm M0 M)))
        rw [shs_len, shs_emp, ← shs_rep]
        exact RG.chk rfl rfl
      | _ => exact RG.bad
    | _ => exact RG.bad
  | loc a =>
    cases e with
    | loc b =>
      cases o with
      | add =>
        show RG M0 (sh M0.length) (catL M a b) (catL (mm M0 M) (M0.length + a) (M0.length + b))
        unfold catL
        rw [lstOf_mm, lstOf_mm]
        cases lstOf M a with
        | none => exact RG.bad
        | some xs =>
          cases lstOf M b with
          | none => exact RG.bad
          | some ys =>
            show RG M0 (sh M0.length) (DL.chk (decide (xs.length + ys.length ≤ line)) (R.ok (D.loc M.length) (M ++ [.lst (xs ++ ys)]))) (DL.chk (decide ((shs M0.length xs).length + (shs M0.length ys).length ≤ line)) (R.ok (D.loc (mm M0 M).length) (mm M0 M ++ [.lst (shs M0.length xs ++ shs M0.length ys)])))
            rw [shs_len, shs_len, ← shs_app, mm_len]
            refine RG.chk rfl ?_
            show _ = R.ok _ _
            rw [← mm_app]
            rfl
      | _ => exact RG.bad
    | int k =>
      cases o with
      | mul =>
        show RG M0 (sh M0.length) (repL M a k) (repL (mm M0 M) (M0.length + a) k)
        unfold repL
        rw [lstOf_mm]
        cases lstOf M a with
        | none => exact RG.bad
        | some xs =>
          show RG M0 (sh M0.length) (DL.chk (decide (xs.length * k.toNat ≤ line) && (decide (k < 1000000000) && decide (-1000000000 < k))) (R.ok (D.loc M.length) (M ++ [.lst (List.replicate k.toNat xs).flatten]))) (DL.chk (decide ((shs M0.length xs).length * k.toNat ≤ line) && (decide (k < 1000000000) && decide (-1000000000 < k))) (R.ok (D.loc (mm M0 M).length) (mm M0 M ++ [.lst (List.replicate k.toNat (shs M0.length xs)).flatten])))
          rw [shs_len, ← shs_rep, mm_len]
          refine RG.chk rfl ?_
          show _ = R.ok _ _
          rw [← mm_app]
          rfl
      | _ => exact RG.bad
    | _ => exact RG.bad
  | str a =>
    cases e with
    | str b =>
      cases o with
      | add => exact RG.chk rfl rfl
      | _ => exact RG.bad
    | _ => exact RG.bad
  | _ => cases e <;> exact RG.bad
theorem atI_sh (xs : List D) (i : Int) : atI (shs M0.length xs) i = (atI xs i).map (sh M0.length) := by
  unfold atI
  rw [shs_len]
  cases ixN xs.length i with
  | none => rfl
  | some j => exact shs_get _ _ _
theorem idx_mm (d e : D) : idx (mm M0 M) (sh M0.length d) (sh M0.length e) = (idx M d e).map (sh M0.length) := by
  cases e with
  | int i =>
    show (match items (mm M0 M) (sh M0.length d) with
      | some ds => atI ds i
      | none => none) = Option.map _ (match items M d with
      | some ds => atI ds i
      | none => none)
    rw [items_mm]
    cases items M d with
    | none => rfl
    | some ds => exact atI_sh ds i
  | _ => rfl
theorem cut_sh (n : Nat) (xs : List D) (lo hi : Option Int) : cut (shs n xs) lo hi = shs n (cut xs lo hi) := by
  unfold cut
  rw [shs_len, ← shs_drop, ← shs_take]
theorem slc_mm (lo hi : Option Int) (d : D) : RG M0 (sh M0.length) (slc M lo hi d) (slc (mm M0 M) lo hi (sh M0.length d)) := by
  cases d with
  | tup ds =>
    show R.ok (D.tup (cut (shs M0.length ds) lo hi)) _ = R.ok _ _
    rw [cut_sh]
    rfl
  | loc l =>
    show RG M0 (sh M0.length) (match lstOf M l with
      | some ds => R.ok (D.loc M.length) (M ++ [.lst (cut ds lo hi)])
      | none => .bad) (match lstOf (mm M0 M) (M0.length + l) with
      | some ds => R.ok (D.loc (mm M0 M).length) (mm M0 M ++ [.lst (cut ds lo hi)])
      | none => .bad)
    rw [lstOf_mm]
    cases lstOf M l with
    | none => exact RG.bad
    | some ds =>
      show R.ok (D.loc (mm M0 M).length) (mm M0 M ++ [.lst (cut (shs M0.length ds) lo hi)]) = R.ok _ _
      rw [cut_sh, mm_len, ← mm_app]
      rfl
  | _ => exact RG.bad
end
end DL

/-! DL: what is evaluated in an empty memory goes the same in any -/
namespace DL
open PySem
section
variable {M0 : Mem} {M : Mem}
theorem intsOf_sh (n : Nat) : ∀ ds : List D, intsOf (shs n ds) = intsOf ds
  | [] => rfl
  | d :: r => by
    cases d with
    | int i =>
      show (match intsOf (shs n r) with
        | some l => some (i :: l)
        | none => none) = _
      rw [intsOf_sh n r]; rfl
    | _ => rfl
theorem boolsOf_sh (n : Nat) : ∀ ds : List D, boolsOf (shs n ds) = boolsOf ds
  | [] => rfl
  | d :: r => by
    cases d with
    | bl i =>
      show (match boolsOf (shs n r) with
        | some l => some (i :: l)
        | none => none) = _
      rw [boolsOf_sh n r]; rfl
    | _ => rfl
theorem tyOf_mm (d : D) : tyOf (mm M0 M) (sh M0.length d) = tyOf M d := by
  cases d with
  | loc l =>
    show (match (mm M0 M)[M0.length + l]? with
      | some (.lst _) => some "list"
      | some (.dik _) => some "dict"
      | _ => none) = _
    rw [mm_at]
    show _ = (match M[l]? with
      | some (.lst _) => some "list"
      | some (.dik _) => some "dict"
      | _ => none)
    cases M[l]? with
    | none => rfl
    | some c => cases c <;> rfl
  | _ => rfl
theorem isI_mm (ts : List String) (d : D) : isI (mm M0 M) ts (sh M0.length d) = isI M ts d := by
  unfold isI
  rw [tyOf_mm]
theorem rng_sh (n : Nat) (i j : Int) : shs n (rngL i j) = rngL i j := by
  unfold rngL
  rw [shs_map, List.map_map]
  rfl
theorem RG.items {α : Type} {s : α → α} {d : D} {f0 f : List D → R α} (h : ∀ ds, items M d = some ds → RG M0 s (f0 ds) (f (shs M0.length ds))) : RG M0 s (match items M d with
    | some ds => f0 ds
    | none => .bad) (match items (mm M0 M) (sh M0.length d) with
    | some ds => f ds
    | none => .bad) := by
  rw [items_mm]
  cases e : DL.items M d with
  | none => exact RG.bad
  | some ds => exact h ds e
theorem RG.lst {α : Type} {s : α → α} {l : Nat} {f0 f : List D → R α} (h : ∀ ds, lstOf M l = some ds → RG M0 s (f0 ds) (f (shs M0.length ds))) : RG M0 s (match lstOf M l with
    | some ds => f0 ds
    | none => .bad) (match lstOf (mm M0 M) (M0.length + l) with
    | some ds => f ds
    | none => .bad) := by
  rw [lstOf_mm]
  cases e : lstOf M l with
  | none => exact RG.bad
  | some ds => exact h ds e
theorem RG.new {ds : List D} : RG M0 (sh M0.length) (.ok (.loc M.length) (M ++ [.lst ds])) (.ok (.loc (mm M0 M).length) (mm M0 M ++ [.lst (shs M0.length ds)])) := by
  show R.ok _ _ = R.ok _ _
  rw [mm_len, ← mm_app]
  rfl
theorem lst_ints {l : Nat} {f0 : List Int → R D} (h : ∀ is, RG M0 (sh M0.length) (f0 is) (f0 is)) : ∀ f : List Int → R D, (∀ is, RG M0 (sh M0.length) (f0 is) (f is)) → RG M0 (sh M0.length) (match lstOf M l with
    | some ds => match intsOf ds with
      | some is => f0 is
      | none => .bad
    | none => .bad) (match lstOf (mm M0 M) (M0.length + l) with
    | some ds => match intsOf ds with
      | some is => f is
      | none => .bad
    | none => .bad) := fun f hf => by
  rw [lstOf_mm]
  cases lstOf M l with
  | none => exact RG.bad
  | some ds =>
    show RG M0 _ (match intsOf ds with
      | some is => f0 is
      | none => .bad) (match intsOf (shs M0.length ds) with
      | some is => f is
      | none => .bad)
    rw [intsOf_sh]
    cases intsOf ds with
    | none => exact RG.bad
    | some is => exact hf is
theorem prim_mm (p : Prim) (ds : List D) : RG M0 (sh M0.length) (prim M p ds) (prim (mm M0 M) p (shs M0.length ds)) := by
  cases p with
  | len =>
    match ds with
    | [d] => exact RG.items fun ds _ => by show R.ok _ _ = R.ok _ _; rw [shs_len]; rfl
    | [] => exact RG.bad
    | d :: _ :: _ => cases d <;> exact RG.bad
  | abs =>
    match ds with
    | [d] => cases d <;> first | exact RG.bad | rfl
    | [] => exact RG.bad
    | d :: _ :: _ => cases d <;> exact RG.bad
  | min2 =>
    match ds with
    | [d, e] => cases d <;> cases e <;> first | exact RG.bad | rfl
    | [] => exact RG.bad
    | [d] => cases d <;> exact RG.bad
    | d :: e :: _ :: _ => cases d <;> cases e <;> exact RG.bad
  | max2 =>
    match ds with
    | [d, e] => cases d <;> cases e <;> first | exact RG.bad | rfl
    | [] => exact RG.bad
    | [d] => cases d <;> exact RG.bad
    | d :: e :: _ :: _ => cases d <;> cases e <;> exact RG.bad
  | int1 =>
    match ds with
    | [d] => cases d <;> first | exact RG.bad | rfl
    | [] => exact RG.bad
    | d :: _ :: _ => cases d <;> exact RG.bad
  | tuple =>
    match ds with
    | [d] => exact RG.items fun ds _ => rfl
    | [] => exact RG.bad
    | d :: _ :: _ => cases d <;> exact RG.bad
  | list =>
    match ds with
    | [d] => exact RG.items fun ds _ => RG.new
    | [] => exact RG.bad
    | d :: _ :: _ => cases d <;> exact RG.bad
  | all =>
    match ds with
    | [d] =>
      cases d with
      | loc l =>
        refine RG.lst (f0 := fun ds => match boolsOf ds with
          | some bs => R.ok (D.bl (bs.all id)) M
          | none => .bad) fun ds _ => ?_
        show RG M0 _ (match boolsOf ds with
          | some bs => R.ok (D.bl (bs.all id)) M
          | none => .bad) (match boolsOf (shs M0.length ds) with
          | some bs => R.ok (D.bl (bs.all id)) (mm M0 M)
          | none => .bad)
        rw [boolsOf_sh]
        cases boolsOf ds with
        | none => exact RG.bad
        | some bs => rfl
      | _ => exact RG.bad
    | [] => exact RG.bad
    | d :: _ :: _ => cases d <;> exact RG.bad
  | any =>
    match ds with
    | [d] =>
      cases d with
      | loc l =>
        refine RG.lst (f0 := fun ds => match boolsOf ds with
          | some bs => R.ok (D.bl (bs.any id)) M
          | none => .bad) fun ds _ => ?_
        show RG M0 _ (match boolsOf ds with
          | some bs => R.ok (D.bl (bs.any id)) M
          | none => .bad) (match boolsOf (shs M0.length ds) with
          | some bs => R.ok (D.bl (bs.any id)) (mm M0 M)
          | none => .bad)
        rw [boolsOf_sh]
        cases boolsOf ds with
        | none => exact RG.bad
        | some bs => rfl
      | _ => exact RG.bad
    | [] => exact RG.bad
    | d :: _ :: _ => cases d <;> exact RG.bad
  | sum =>
    match ds with
    | [d] =>
      cases d with
      | loc l =>
        refine RG.lst (f0 := fun ds => match intsOf ds with
          | some is => R.ok (D.int is.sum) M
          | none => .bad) fun ds _ => ?_
        show RG M0 _ (match intsOf ds with
          | some is => R.ok (D.int is.sum) M
          | none => .bad) (match intsOf (shs M0.length ds) with
          | some is => R.ok (D.int is.sum) (mm M0 M)
          | none => .bad)
        rw [intsOf_sh]
        cases intsOf ds with
        | none => exact RG.bad
        | some bs => rfl
      | _ => exact RG.bad
    | [] => exact RG.bad
    | d :: _ :: _ => cases d <;> exact RG.bad
  | isinst ts =>
    match ds with
    | [d] =>
      show RG M0 _ (match isI M ts d with
        | some b => R.ok (D.bl b) M
        | none => .bad) (match isI (mm M0 M) ts (sh M0.length d) with
        | some b => R.ok (D.bl b) (mm M0 M)
        | none => .bad)
      rw [isI_mm]
      cases isI M ts d with
      | none => exact RG.bad
      | some b => rfl
    | [] => exact RG.bad
    | d :: _ :: _ => cases d <;> exact RG.bad
  | minl =>
    match ds with
    | [d] =>
      cases d with
      | loc l =>
        refine RG.lst (f0 := fun ds => match intsOf ds with
          | some is => match minI is with
            | some i => R.ok (D.int i) M
            | none => .bad
          | none => .bad) fun ds _ => ?_
        show RG M0 _ (match intsOf ds with
          | some is => match minI is with
            | some i => R.ok (D.int i) M
            | none => .bad
          | none => .bad) (match intsOf (shs M0.length ds) with
          | some is => match minI is with
            | some i => R.ok (D.int i) (mm M0 M)
            | none => .bad
          | none => .bad)
        rw [intsOf_sh]
        cases intsOf ds with
        | none => exact RG.bad
        | some bs =>
          simp only
          cases minI bs with
          | none => exact RG.bad
          | some i => rfl
      | _ => exact RG.bad
    | [] => exact RG.bad
    | d :: _ :: _ => cases d <;> exact RG.bad
  | maxl =>
    match ds with
    | [d] =>
      cases d with
      | loc l =>
        refine RG.lst (f0 := fun ds => match intsOf ds with
          | some is => match maxI is with
            | some i => R.ok (D.int i) M
            | none => .bad
          | none => .bad) fun ds _ => ?_
        show RG M0 _ (match intsOf ds with
          | some is => match maxI is with
            | some i => R.ok (D.int i) M
            | none => .bad
          | none => .bad) (match intsOf (shs M0.length ds) with
          | some is => match maxI is with
            | some i => R.ok (D.int i) (mm M0 M)
            | none => .bad
          | none => .bad)
        rw [intsOf_sh]
        cases intsOf ds with
        | none => exact RG.bad
        | some bs =>
          simp only
          cases maxI bs with
          | none => exact RG.bad
          | some i => rfl
      | _ => exact RG.bad
    | [] => exact RG.bad
    | d :: _ :: _ => cases d <;> exact RG.bad
  | lrange =>
    match ds with
    | [d] =>
      cases d with
      | int i =>
        refine RG.chk rfl ?_
        have := RG.new (M0 := M0) (M := M) (ds := rngL 0 i)
        rw [rng_sh] at this
        exact this
      | _ => exact RG.bad
    | [d, e] =>
      cases d with
      | int i =>
        cases e with
        | int j =>
          refine RG.chk rfl ?_
          have := RG.new (M0 := M0) (M := M) (ds := rngL i j)
          rw [rng_sh] at this
          exact this
        | _ => exact RG.bad
      | _ => cases e <;> exact RG.bad
    | [] => exact RG.bad
    | d :: e :: _ :: _ => cases d <;> cases e <;> exact RG.bad
  | trange =>
    match ds with
    | [d] =>
      cases d with
      | int i =>
        refine RG.chk rfl ?_
        show R.ok (D.tup (rngL 0 i)) _ = R.ok (D.tup (shs M0.length (rngL 0 i))) _
        rw [rng_sh]
      | _ => exact RG.bad
    | [d, e] =>
      cases d with
      | int i =>
        cases e with
        | int j =>
          refine RG.chk rfl ?_
          show R.ok (D.tup (rngL i j)) _ = R.ok (D.tup (shs M0.length (rngL i j))) _
          rw [rng_sh]
        | _ => exact RG.bad
      | _ => cases e <;> exact RG.bad
    | [] => exact RG.bad
    | d :: e :: _ :: _ => cases d <;> cases e <;> exact RG.bad
theorem isL_mm (d : D) : isL (mm M0 M) (sh M0.length d) = isL M d := by
  cases d with
  | loc l =>
    show (lstOf (mm M0 M) (M0.length + l)).isSome = _
    rw [lstOf_mm]
    show _ = (lstOf M l).isSome
    cases lstOf M l <;> rfl
  | _ => rfl
theorem mth_mm (m : Mth) (d e : D) : RG M0 (sh M0.length) (mth M m d e) (mth (mm M0 M) m (sh M0.length d) (sh M0.length e)) := by
  cases m with
  | append =>
    cases d with
    | loc l =>
      refine RG.lst (f0 := fun ds => chk (decide (ds.length < line)) (R.ok D.non (M.set l (.lst (ds ++ [e]))))) fun ds _ => ?_
      show RG M0 _ _ (chk (decide ((shs M0.length ds).length < line)) (R.ok D.non ((mm M0 M).set (M0.length + l) (.lst (shs M0.length ds ++ [sh M0.length e])))))
      rw [shs_len]
      refine RG.chk rfl ?_
      show R.ok _ _ = R.ok _ _
      rw [show Cell.lst (shs M0.length ds ++ [sh M0.length e]) = shC M0.length (.lst (ds ++ [e])) by show _ = Cell.lst (shs _ _); rw [shs_app]; rfl, mm_set]
      rfl
    | _ => exact RG.bad
  | extend =>
    cases d with
    | loc l =>
      cases e with
      | loc k =>
        refine RG.lst (f0 := fun ds => match lstOf M k with
          | some es => chk (decide (ds.length + es.length ≤ line)) (R.ok D.non (M.set l (.lst (ds ++ es))))
          | none => .bad) fun ds _ => ?_
        refine RG.lst (f0 := fun es => chk (decide (ds.length + es.length ≤ line)) (R.ok D.non (M.set l (.lst (ds ++ es))))) (f := fun es => chk (decide ((shs M0.length ds).length + es.length ≤ line)) (R.ok D.non ((mm M0 M).set (M0.length + l) (.lst (shs M0.length ds ++ es))))) fun es _ => ?_
        rw [shs_len, shs_len]
        refine RG.chk rfl ?_
        show R.ok _ _ = R.ok _ _
        rw [show Cell.lst (shs M0.length ds ++ shs M0.length es) = shC M0.length (.lst (ds ++ es)) by show _ = Cell.lst (shs _ _); rw [shs_app], mm_set]
        rfl
      | _ => exact RG.bad
    | _ => cases e <;> exact RG.bad
/-! ### walks -/
def shW (n : Nat) : Wk → Wk
  | .seq d => .seq (sh n d)
  | .rng lo c k => .rng lo c k
  | .zip d e => .zip (sh n d) (sh n e)
  | .enum d => .enum (sh n d)
def shT (n : Nat) : Tn → Tn
  | .bad => .bad
  | .stop => .stop
  | .yld d => .yld (sh n d)
theorem isSeq_mm (d : D) : isSeq (mm M0 M) (sh M0.length d) = isSeq M d := by
  unfold isSeq
  rw [items_mm]
  cases items M d <;> rfl
theorem isTup_sh (d : D) : isTup (sh M0.length d) = isTup d := by cases d <;> rfl
theorem src_mm (s : Src) (ds : List D) : ∀ w, src M s ds = some w → src (mm M0 M) s (shs M0.length ds) = some (shW M0.length w) := by
  intro w h
  cases s with
  | seq =>
    match ds, h with
    | [d], h =>
      have h : (if isSeq M d then some (Wk.seq d) else none) = some w := h
      show (if isSeq (mm M0 M) (sh M0.length d) then some (Wk.seq (sh M0.length d)) else none) = _
      rw [isSeq_mm]
      split at h
      · rename_i q; cases h; rw [if_pos q]; rfl
      · cases h
  | rng =>
    match ds, h with
    | [d], h => cases d with
      | int j => 
        have h : (if small62 j then some (Wk.rng 0 1 j.toNat) else none) = some w := h
        show (if small62 j then some (Wk.rng 0 1 j.toNat) else none) = _
        rw [h]
        split at h
        · cases h; rfl
        · cases h
      | _ => cases h
    | [d, e], h =>
      cases d with
      | int i =>
        cases e with
        | int j =>
          have h : (if small62 i && small62 j then some (Wk.rng i 1 (j - i).toNat) else none) = some w := h
          show (if small62 i && small62 j then some (Wk.rng i 1 (j - i).toNat) else none) = _
          rw [h]
          split at h
          · cases h; rfl
          · cases h
        | _ => cases h
      | _ => cases e <;> cases h
    | [d, e, f], h =>
      cases d with
      | int i =>
        cases e with
        | int j =>
          cases f with
          | int c =>
            have h : rng3 i j c = some w := h
            show rng3 i j c = _
            rw [h]
            unfold rng3 at h
            split at h
            · cases h; rfl
            · cases h
          | _ => cases h
        | _ => cases f <;> cases h
      | _ => cases e <;> cases f <;> cases h
    | d :: e :: f :: _ :: _, h => cases d <;> cases e <;> cases f <;> cases h
  | zip =>
    match ds, h with
    | [d, e], h =>
      have h : (if isSeq M d && (isSeq M e && isTup d == isTup e) then some (Wk.zip d e) else none) = some w := h
      show (if isSeq (mm M0 M) (sh M0.length d) && (isSeq (mm M0 M) (sh M0.length e) && isTup (sh M0.length d) == isTup (sh M0.length e)) then some (Wk.zip (sh M0.length d) (sh M0.length e)) else none) = _
      rw [isSeq_mm, isSeq_mm, isTup_sh, isTup_sh]
      split at h
      · rename_i q; cases h; rw [if_pos q]; rfl
      · cases h
  | enum =>
    match ds, h with
    | [d], h =>
      have h : (if isSeq M d && !isTup d then some (Wk.enum d) else none) = some w := h
      show (if isSeq (mm M0 M) (sh M0.length d) && !isTup (sh M0.length d) then some (Wk.enum (sh M0.length d)) else none) = _
      rw [isSeq_mm, isTup_sh]
      split at h
      · rename_i q; cases h; rw [if_pos q]; rfl
      · cases h
theorem at_mm (w : Wk) (i : Nat) : (shW M0.length w).at (mm M0 M) i = shT M0.length (w.at M i) := by
  cases w with
  | seq d =>
    show (match items (mm M0 M) (sh M0.length d) with
      | some ds => match ds[i]? with
        | some x => Tn.yld x
        | none => .stop
      | none => .bad) = shT _ (match items M d with
      | some ds => match ds[i]? with
        | some x => Tn.yld x
        | none => .stop
      | none => .bad)
    rw [items_mm]
    cases items M d with
    | none => rfl
    | some ds =>
      show (match (shs M0.length ds)[i]? with
        | some x => Tn.yld x
        | none => .stop) = _
      rw [shs_get]
      simp only
      cases ds[i]? <;> rfl
  | rng lo c k =>
    show (if i < k then Tn.yld (.int (lo + (i : Nat) * c)) else .stop) = shT _ (if i < k then Tn.yld (.int (lo + (i : Nat) * c)) else .stop)
    split <;> rfl
  | zip d e =>
    show (match items (mm M0 M) (sh M0.length d) with
      | some ds => match items (mm M0 M) (sh M0.length e) with
        | some es => match ds[i]? with
          | some x => match es[i]? with
            | some y => Tn.yld (.tup [x, y])
            | none => .stop
          | none => .stop
        | none => .bad
      | none => .bad) = shT _ (match items M d with
      | some ds => match items M e with
        | some es => match ds[i]? with
          | some x => match es[i]? with
            | some y => Tn.yld (.tup [x, y])
            | none => .stop
          | none => .stop
        | none => .bad
      | none => .bad)
    rw [items_mm, items_mm]
    cases items M d with
    | none => rfl
    | some ds =>
      cases items M e with
      | none => rfl
      | some es =>
        show (match (shs M0.length ds)[i]? with
          | some x => match (shs M0.length es)[i]? with
            | some y => Tn.yld (.tup [x, y])
            | none => .stop
          | none => .stop) = _
        rw [shs_get, shs_get]
        simp only
        cases ds[i]? with
        | none => rfl
        | some x => cases es[i]? <;> rfl
  | enum d =>
    show (match items (mm M0 M) (sh M0.length d) with
      | some ds => match ds[i]? with
        | some x => Tn.yld (.tup [.int (i : Nat), x])
        | none => .stop
      | none => .bad) = shT _ (match items M d with
      | some ds => match ds[i]? with
        | some x => Tn.yld (.tup [.int (i : Nat), x])
        | none => .stop
      | none => .bad)
    rw [items_mm]
    cases items M d with
    | none => rfl
    | some ds =>
      show (match (shs M0.length ds)[i]? with
        | some x => Tn.yld (.tup [.int (i : Nat), x])
        | none => .stop) = _
      rw [shs_get]
      simp only
      cases ds[i]? <;> rfl
theorem getD_len (d : D) : ((items (mm M0 M) (sh M0.length d)).getD []).length = ((items M d).getD []).length := by
  rw [items_mm]
  cases items M d with
  | none => rfl
  | some ds => exact shs_len _ _
theorem most_mm (w : Wk) : (shW M0.length w).most (mm M0 M) = w.most M := by
  cases w with
  | seq d => exact getD_len d
  | rng lo c k => rfl
  | zip d e =>
    show min _ _ = min _ _
    rw [getD_len, getD_len]
  | enum d => exact getD_len d
theorem setItem_mm (o i v : D) : ∀ M', setItem M o i v = some M' → setItem (mm M0 M) (sh M0.length o) (sh M0.length i) (sh M0.length v) = some (mm M0 M') := by
  intro M' h
  cases o with
  | loc n =>
    cases i with
    | int k =>
      have h : (match lstOf M n with
        | some ds => match ixN ds.length k with
          | some j => some (M.set n (.lst (ds.set j v)))
          | none => none
        | none => none) = some M' := h
      show (match lstOf (mm M0 M) (M0.length + n) with
        | some ds => match ixN ds.length k with
          | some j => some ((mm M0 M).set (M0.length + n) (.lst (ds.set j (sh M0.length v))))
          | none => none
        | none => none) = _
      rw [lstOf_mm]
      cases e : lstOf M n with
      | none => rw [e] at h; cases h
      | some ds =>
        rw [e] at h
        show (match ixN (shs M0.length ds).length k with
          | some j => some ((mm M0 M).set (M0.length + n) (.lst ((shs M0.length ds).set j (sh M0.length v))))
          | none => none) = _
        rw [shs_len]
        simp only at h
        cases e2 : ixN ds.length k with
        | none => rw [e2] at h; cases h
        | some j =>
          rw [e2] at h
          cases h
          show some _ = some _
          rw [← shs_set, ← mm_set]
          rfl
    | _ => cases h
  | _ => cases h
end
end DL

/-! DL: what is evaluated in an empty memory goes the same in any -/
namespace DL
open PySem
mutual
/-- no place in it -/
def lf : D → Bool
  | .tup ds => lfs ds
  | .ro ds => lfs ds
  | .loc _ => false
  | _ => true
def lfs : List D → Bool
  | [] => true
  | d :: r => lf d && lfs r
end
mutual
theorem sh_lf (n : Nat) : ∀ {d : D}, lf d = true → sh n d = d
  | .tup ds, h => by show D.tup (shs n ds) = _; rw [shs_lf n (show lfs ds = true from h)]
  | .ro ds, h => by show D.ro (shs n ds) = _; rw [shs_lf n (show lfs ds = true from h)]
  | .loc _, h => by cases h
  | .non, _ => rfl
  | .bl _, _ => rfl
  | .int _, _ => rfl
  | .str _, _ => rfl
  | .fn _, _ => rfl
theorem shs_lf (n : Nat) : ∀ {ds : List D}, lfs ds = true → shs n ds = ds
  | [], _ => rfl
  | d :: r, h => by
    obtain ⟨h1, h2⟩ := Bool.and_eq_true_iff.mp (show (lf d && lfs r) = true from h)
    show sh n d :: shs n r = _
    rw [sh_lf n h1, shs_lf n h2]
end
def lfH (h : List (List Nat × D)) : Bool := h.all fun p => lf p.2
mutual
def wfE : IE → Bool
  | .var _ => true
  | .cst d => lf d
  | .tup es => wfEs es
  | .lst es => wfEs es
  | .un _ a => wfE a
  | .bin _ a b => wfE a && wfE b
  | .cmp _ a b => wfE a && wfE b
  | .cmp2 _ _ a b c => wfE a && (wfE b && wfE c)
  | .and a b => wfE a && wfE b
  | .or a b => wfE a && wfE b
  | .ifx c a b => wfE c && (wfE a && wfE b)
  | .idx a b => wfE a && wfE b
  | .slc a lo hi => wfE a && (wfO lo && wfO hi)
  | .call _ es => wfEs es
  | .prim _ es => wfEs es
  | .mth _ o a => wfE o && wfE a
  | .comp _ _ es tg ifs elt => wfEs es && (wfG tg && (wfEs ifs && wfE elt))
  | .lam _ h ret body => lfH h && (lf ret && wfE body)
def wfEs : IEs → Bool
  | .nil => true
  | .cons e r => wfE e && wfEs r
def wfO : IEo → Bool
  | .no => true
  | .yes e => wfE e
def wfG : ITg → Bool
  | .name _ => true
  | .tup ts => wfGs ts
  | .sub o i => wfE o && wfE i
def wfGs : ITgs → Bool
  | .nil => true
  | .cons t r => wfG t && wfGs r
end
mutual
def wfS : IS → Bool
  | .asg t e => wfG t && wfE e
  | .expr e => wfE e
  | .ret e => wfE e
  | .ifs c a b => wfE c && (wfSs a && wfSs b)
  | .forr _ es t b => wfEs es && (wfG t && wfSs b)
  | .whl c b => wfE c && wfSs b
  | .tryr b _ h => wfSs b && lfH h
  | _ => true
def wfSs : ISs → Bool
  | .nil => true
  | .cons s r => wfS s && wfSs r
end
theorem findH_lf {h : List (List Nat × D)} (hl : lfH h = true) : ∀ {c : Nat} {d : D}, findH h c = some d → lf d = true := by
  induction h with
  | nil => intro c d e; cases e
  | cons p r ih =>
    intro c d e
    obtain ⟨cs, q⟩ := p
    obtain ⟨h1, h2⟩ := Bool.and_eq_true_iff.mp (show (lf q && lfH r) = true from hl)
    have e : (match cs.contains c with
      | true => some q
      | false => findH r c) = some d := e
    cases hc : cs.contains c with
    | true => rw [hc] at e; cases e; exact h1
    | false => rw [hc] at e; exact ih h2 e
/-- the names: those known in ρ0 stand in ρ, moved -/
def ER (n : Nat) (ρ0 ρ : Env) : Prop := ρ0.length = ρ.length ∧ ∀ (i : Nat) (d : D), ρ0[i]? = some (some d) → ρ[i]? = some (some (sh n d))
theorem ER.set {n : Nat} {ρ0 ρ : Env} (h : ER n ρ0 ρ) (i : Nat) (d : D) : ER n (ρ0.set i (some d)) (ρ.set i (some (sh n d))) := by
  refine ⟨by simp [h.1], fun j e q => ?_⟩
  by_cases hj : i = j
  · subst hj
    by_cases hl : i < ρ0.length
    · rw [List.getElem?_set_self hl] at q
      rw [List.getElem?_set_self (by rw [← h.1]; exact hl)]
      cases q; rfl
    · rw [List.getElem?_eq_none (by simpa using hl)] at q; cases q
  · rw [List.getElem?_set_ne hj] at q ⊢
    exact h.2 j e q
theorem ER.wipe {n : Nat} {ρ0 ρ : Env} (h : ER n ρ0 ρ) : ∀ vs : List Nat, ER n (DL.wipe ρ0 vs) (DL.wipe ρ vs)
  | [] => h
  | i :: vs => by
    have ih := ER.wipe h vs
    show ER n ((DL.wipe ρ0 vs).set i none) ((DL.wipe ρ vs).set i none)
    refine ⟨by simp [ih.1], fun j d q => ?_⟩
    by_cases hj : i = j
    · subst hj
      by_cases hl : i < (DL.wipe ρ0 vs).length
      · rw [List.getElem?_set_self hl] at q; cases q
      · rw [List.getElem?_eq_none (by simpa using hl)] at q; cases q
    · rw [List.getElem?_set_ne hj] at q ⊢
      exact ih.2 j d q
/-- a statement's end, moved -/
def RF (M0 : Mem) (r0 r : F) : Prop := match r0 with
  | .nx ρ0 M => ∃ ρ, r = .nx ρ (mm M0 M) ∧ ER M0.length ρ0 ρ
  | .rt d ρ0 M => ∃ ρ, r = .rt (sh M0.length d) ρ (mm M0 M) ∧ ER M0.length ρ0 ρ
  | .bk ρ0 M => ∃ ρ, r = .bk ρ (mm M0 M) ∧ ER M0.length ρ0 ρ
  | .ct ρ0 M => ∃ ρ, r = .ct ρ (mm M0 M) ∧ ER M0.length ρ0 ρ
  | .ex e ρ0 M => ∃ ρ, r = .ex ⟨e.c, e.d.map (sh M0.length)⟩ ρ (mm M0 M) ∧ ER M0.length ρ0 ρ
  | .bad => True
theorem RF.toF {α : Type} {M0 : Mem} {s : α → α} {r0 r : R α} {ρ0 ρ : Env} {f0 f : α → Mem → F} (h : RG M0 s r0 r) (er : ER M0.length ρ0 ρ) (k : ∀ a M, RF M0 (f0 a M) (f (s a) (mm M0 M))) : RF M0 (r0.toF ρ0 f0) (r.toF ρ f) := by
  cases r0 with
  | ok a M => rw [show r = _ from h]; exact k a M
  | exc e M => rw [show r = _ from h]; exact ⟨ρ, rfl, er⟩
  | bad => trivial
theorem RF.seq {M0 : Mem} {r0 r : F} {f0 f : Env → Mem → F} (h : RF M0 r0 r) (k : ∀ ρ0 ρ M, ER M0.length ρ0 ρ → RF M0 (f0 ρ0 M) (f ρ (mm M0 M))) : RF M0 (r0.seq f0) (r.seq f) := by
  cases r0 with
  | nx ρ0 M => obtain ⟨ρ, rfl, e⟩ := h; exact k ρ0 ρ M e
  | rt d ρ0 M => obtain ⟨ρ, rfl, e⟩ := h; exact ⟨ρ, rfl, e⟩
  | bk ρ0 M => obtain ⟨ρ, rfl, e⟩ := h; exact ⟨ρ, rfl, e⟩
  | ct ρ0 M => obtain ⟨ρ, rfl, e⟩ := h; exact ⟨ρ, rfl, e⟩
  | ex e ρ0 M => obtain ⟨ρ, rfl, e⟩ := h; exact ⟨ρ, rfl, e⟩
  | bad => trivial
section
variable {M0 : Mem}
theorem loop_mm {w : Wk} {st0 st : D → Env → Mem → F} (h : ∀ d ρ0 ρ M, ER M0.length ρ0 ρ → RF M0 (st0 d ρ0 M) (st (sh M0.length d) ρ (mm M0 M))) : ∀ (f i : Nat) (ρ0 ρ : Env) (M : Mem), ER M0.length ρ0 ρ → RF M0 (loop w st0 f i ρ0 M) (loop (shW M0.length w) st f i ρ (mm M0 M))
  | 0, i, ρ0, ρ, M, e => trivial
  | f + 1, i, ρ0, ρ, M, e => by
    unfold loop
    rw [at_mm]
    cases w.at M i with
    | bad => exact trivial
    | stop => exact ⟨ρ, rfl, e⟩
    | yld d =>
      show RF M0 (match st0 d ρ0 M with
        | .nx ρ' M' => loop w st0 f (i + 1) ρ' M'
        | .ct ρ' M' => loop w st0 f (i + 1) ρ' M'
        | .bk ρ' M' => .nx ρ' M'
        | r => r) (match st (sh M0.length d) ρ (mm M0 M) with
        | .nx ρ' M' => loop (shW M0.length w) st f (i + 1) ρ' M'
        | .ct ρ' M' => loop (shW M0.length w) st f (i + 1) ρ' M'
        | .bk ρ' M' => .nx ρ' M'
        | r => r)
      have hs := h d ρ0 ρ M e
      generalize st0 d ρ0 M = r0 at hs
      generalize st (sh M0.length d) ρ (mm M0 M) = r at hs
      cases r0 with
      | nx ρ1 M1 => obtain ⟨ρ2, rfl, e2⟩ := hs; exact loop_mm h f (i + 1) ρ1 ρ2 M1 e2
      | ct ρ1 M1 => obtain ⟨ρ2, rfl, e2⟩ := hs; exact loop_mm h f (i + 1) ρ1 ρ2 M1 e2
      | bk ρ1 M1 => obtain ⟨ρ2, rfl, e2⟩ := hs; exact ⟨ρ2, rfl, e2⟩
      | rt d ρ1 M1 => obtain ⟨ρ2, rfl, e2⟩ := hs; exact ⟨ρ2, rfl, e2⟩
      | ex e1 ρ1 M1 => obtain ⟨ρ2, rfl, e2⟩ := hs; exact ⟨ρ2, rfl, e2⟩
      | bad => trivial
theorem wloop_mm {c0 c : Env → Mem → R Bool} {st0 st : Env → Mem → F} (hc : ∀ ρ0 ρ M, ER M0.length ρ0 ρ → RG M0 id (c0 ρ0 M) (c ρ (mm M0 M))) (h : ∀ ρ0 ρ M, ER M0.length ρ0 ρ → RF M0 (st0 ρ0 M) (st ρ (mm M0 M))) : ∀ (f : Nat) (ρ0 ρ : Env) (M : Mem), ER M0.length ρ0 ρ → RF M0 (wloop c0 st0 f ρ0 M) (wloop c st f ρ (mm M0 M))
  | 0, ρ0, ρ, M, e => trivial
  | f + 1, ρ0, ρ, M, e => by
    unfold wloop
    have h1 := hc ρ0 ρ M e
    generalize c0 ρ0 M = t0 at h1
    generalize c ρ (mm M0 M) = t at h1
    cases t0 with
    | bad => trivial
    | exc x M1 => rw [show t = _ from h1]; exact ⟨ρ, rfl, e⟩
    | ok b M1 =>
      rw [show t = _ from h1]
      cases b with
      | false => exact ⟨ρ, rfl, e⟩
      | true =>
        show RF M0 (match st0 ρ0 M1 with
          | .nx ρ' M' => wloop c0 st0 f ρ' M'
          | .ct ρ' M' => wloop c0 st0 f ρ' M'
          | .bk ρ' M' => .nx ρ' M'
          | r => r) (match st ρ (mm M0 M1) with
          | .nx ρ' M' => wloop c st f ρ' M'
          | .ct ρ' M' => wloop c st f ρ' M'
          | .bk ρ' M' => .nx ρ' M'
          | r => r)
        have hs := h ρ0 ρ M1 e
        generalize st0 ρ0 M1 = r0 at hs
        generalize st ρ (mm M0 M1) = r at hs
        cases r0 with
        | nx ρ1 M1 => obtain ⟨ρ2, rfl, e2⟩ := hs; exact wloop_mm hc h f ρ1 ρ2 M1 e2
        | ct ρ1 M1 => obtain ⟨ρ2, rfl, e2⟩ := hs; exact wloop_mm hc h f ρ1 ρ2 M1 e2
        | bk ρ1 M1 => obtain ⟨ρ2, rfl, e2⟩ := hs; exact ⟨ρ2, rfl, e2⟩
        | rt d ρ1 M1 => obtain ⟨ρ2, rfl, e2⟩ := hs; exact ⟨ρ2, rfl, e2⟩
        | ex e1 ρ1 M1 => obtain ⟨ρ2, rfl, e2⟩ := hs; exact ⟨ρ2, rfl, e2⟩
        | bad => trivial
theorem cloop_mm {w : Wk} {n : Nat} {st0 st : D → Mem → R (Option D)} (h : ∀ d M, RG M0 (Option.map (sh M0.length)) (st0 d M) (st (sh M0.length d) (mm M0 M))) : ∀ (f i : Nat) (M : Mem), RG M0 (sh M0.length) (cloop w n st0 f i M) (cloop (shW M0.length w) (M0.length + n) st f i (mm M0 M))
  | 0, i, M => trivial
  | f + 1, i, M => by
    unfold cloop
    rw [at_mm]
    cases w.at M i with
    | bad => exact trivial
    | stop => exact rfl
    | yld d =>
      have hs := h d M
      show RG M0 _ (match st0 d M with
        | .ok none M' => cloop w n st0 f (i + 1) M'
        | .ok (some y) M' => match lstOf M' n with
          | some ds => match decide (ds.length < line) with
            | true => cloop w n st0 f (i + 1) (M'.set n (.lst (ds ++ [y])))
            | false => .bad
          | none => .bad
        | _ => .bad) (match st (sh M0.length d) (mm M0 M) with
        | .ok none M' => cloop (shW M0.length w) (M0.length + n) st f (i + 1) M'
        | .ok (some y) M' => match lstOf M' (M0.length + n) with
          | some ds => match decide (ds.length < line) with
            | true => cloop (shW M0.length w) (M0.length + n) st f (i + 1) (M'.set (M0.length + n) (.lst (ds ++ [y])))
            | false => .bad
          | none => .bad
        | _ => .bad)
      generalize st0 d M = r0 at hs
      generalize st (sh M0.length d) (mm M0 M) = r at hs
      cases r0 with
      | bad => trivial
      | exc x M1 => trivial
      | ok o M1 =>
        rw [show r = _ from hs]
        cases o with
        | none => exact cloop_mm h f (i + 1) M1
        | some y =>
          show RG M0 _ (match lstOf M1 n with
            | some ds => match decide (ds.length < line) with
              | true => cloop w n st0 f (i + 1) (M1.set n (.lst (ds ++ [y])))
              | false => .bad
            | none => .bad) (match lstOf (mm M0 M1) (M0.length + n) with
            | some ds => match decide (ds.length < line) with
              | true => cloop (shW M0.length w) (M0.length + n) st f (i + 1) ((mm M0 M1).set (M0.length + n) (.lst (ds ++ [sh M0.length y])))
              | false => .bad
            | none => .bad)
          rw [lstOf_mm]
          cases lstOf M1 n with
          | none => exact RG.bad
          | some ds =>
            show RG M0 _ (match decide (ds.length < line) with
              | true => cloop w n st0 f (i + 1) (M1.set n (.lst (ds ++ [y])))
              | false => .bad) (match decide ((shs M0.length ds).length < line) with
              | true => cloop (shW M0.length w) (M0.length + n) st f (i + 1) ((mm M0 M1).set (M0.length + n) (.lst (shs M0.length ds ++ [sh M0.length y])))
              | false => .bad)
            rw [shs_len]
            cases decide (ds.length < line) with
            | false => exact RG.bad
            | true =>
              simp only
              rw [show Cell.lst (shs M0.length ds ++ [sh M0.length y]) = shC M0.length (.lst (ds ++ [y])) by show _ = Cell.lst (shs _ _); rw [shs_app]; rfl, mm_set]
              exact cloop_mm h f (i + 1) _
end
end DL

/-! DL: what is evaluated in an empty memory goes the same in any -/
namespace DL
open PySem
section
variable {M0 : Mem} {call : Nat → List D → Mem → R D}
def CallMM (M0 : Mem) (call : Nat → List D → Mem → R D) : Prop := ∀ g ds M, RG M0 (sh M0.length) (call g ds M) (call g (shs M0.length ds) (mm M0 M))
theorem ba2 {a b : Bool} (h : (a && b) = true) : a = true ∧ b = true := Bool.and_eq_true_iff.mp h
theorem RG.truth {α : Type} {s : α → α} {M : Mem} {d : D} {t0 f0 t f : R α} (h1 : RG M0 s t0 t) (h2 : RG M0 s f0 f) : RG M0 s (match DL.truth M d with
    | some true => t0
    | some false => f0
    | none => .bad) (match DL.truth (mm M0 M) (sh M0.length d) with
    | some true => t
    | some false => f
    | none => .bad) := by
  rw [truth_mm]
  cases DL.truth M d with
  | none => exact RG.bad
  | some b => cases b with
    | true => exact h1
    | false => exact h2
theorem RG.ok {α : Type} {s : α → α} {a : α} {M : Mem} : RG M0 s (.ok a M) (.ok (s a) (mm M0 M)) := rfl
mutual
theorem evE_mm (hc : CallMM M0 call) : ∀ (e : IE), wfE e = true → ∀ (ρ0 ρ : Env) (M : Mem), ER M0.length ρ0 ρ → RG M0 (sh M0.length) (evE call e ρ0 M) (evE call e ρ (mm M0 M))
  | .var i, _, ρ0, ρ, M, er => by
    show RG M0 _ (match ρ0[i]? with
      | some (some d) => R.ok d M
      | _ => .bad) (match ρ[i]? with
      | some (some d) => R.ok d (mm M0 M)
      | _ => .bad)
    cases q : ρ0[i]? with
    | none => exact RG.bad
    | some o => cases o with
      | none => exact RG.bad
      | some d => rw [er.2 i d q]; exact rfl
  | .cst d, w, ρ0, ρ, M, er => by
    have h := RG.ok (M0 := M0) (s := sh M0.length) (a := d) (M := M)
    rw [sh_lf _ (show lf d = true from w)] at h
    exact h
  | .tup es, w, ρ0, ρ, M, er => RG.bind (evEs_mm hc es w ρ0 ρ M er) fun ds M1 => rfl
  | .lst es, w, ρ0, ρ, M, er => RG.bind (evEs_mm hc es w ρ0 ρ M er) fun ds M1 => RG.new
  | .un o a, w, ρ0, ρ, M, er => RG.bind (evE_mm hc a w ρ0 ρ M er) fun d M1 => RG.opt (unop_mm o d)
  | .bin o a b, w, ρ0, ρ, M, er => RG.bind (evE_mm hc a (ba2 w).1 ρ0 ρ M er) fun d M1 => RG.bind (evE_mm hc b (ba2 w).2 ρ0 ρ M1 er) fun e M2 => binop_mm o d e
  | .cmp o a b, w, ρ0, ρ, M, er => RG.bind (evE_mm hc a (ba2 w).1 ρ0 ρ M er) fun d M1 => RG.bind (evE_mm hc b (ba2 w).2 ρ0 ρ M1 er) fun e M2 => by
    rw [cmpop_mm]
    refine RG.opt fun x h => ?_
    cases q : cmpop M2 o d e with
    | none => rw [q] at h; cases h
    | some b => rw [q] at h; cases h; rfl
  | .cmp2 o p a b c, w, ρ0, ρ, M, er => RG.bind (evE_mm hc a (ba2 w).1 ρ0 ρ M er) fun d M1 => RG.bind (evE_mm hc b (ba2 (ba2 w).2).1 ρ0 ρ M1 er) fun e M2 => by
    rw [cmpop_mm]
    cases cmpop M2 o d e with
    | none => exact RG.bad
    | some t =>
      cases t with
      | false => exact rfl
      | true =>
        refine RG.bind (evE_mm hc c (ba2 (ba2 w).2).2 ρ0 ρ M2 er) fun f M3 => ?_
        rw [cmpop_mm]
        refine RG.opt fun x h => ?_
        cases q : cmpop M3 p e f with
        | none => rw [q] at h; cases h
        | some b => rw [q] at h; cases h; rfl
  | .and a b, w, ρ0, ρ, M, er => RG.bind (evE_mm hc a (ba2 w).1 ρ0 ρ M er) fun d M1 => RG.truth (evE_mm hc b (ba2 w).2 ρ0 ρ M1 er) rfl
  | .or a b, w, ρ0, ρ, M, er => RG.bind (evE_mm hc a (ba2 w).1 ρ0 ρ M er) fun d M1 => RG.truth rfl (evE_mm hc b (ba2 w).2 ρ0 ρ M1 er)
  | .ifx c a b, w, ρ0, ρ, M, er => RG.bind (evE_mm hc c (ba2 w).1 ρ0 ρ M er) fun d M1 => RG.truth (evE_mm hc a (ba2 (ba2 w).2).1 ρ0 ρ M1 er) (evE_mm hc b (ba2 (ba2 w).2).2 ρ0 ρ M1 er)
  | .idx a b, w, ρ0, ρ, M, er => RG.bind (evE_mm hc a (ba2 w).1 ρ0 ρ M er) fun d M1 => RG.bind (evE_mm hc b (ba2 w).2 ρ0 ρ M1 er) fun e M2 => by
    rw [idx_mm]
    exact RG.opt fun x h => by rw [h]; rfl
  | .slc a lo hi, w, ρ0, ρ, M, er => RG.bind (evE_mm hc a (ba2 w).1 ρ0 ρ M er) fun d M1 => RG.bind (evO_mm hc lo (ba2 (ba2 w).2).1 ρ0 ρ M1 er) fun l M2 => RG.bind (evO_mm hc hi (ba2 (ba2 w).2).2 ρ0 ρ M2 er) fun h M3 => slc_mm l h d
  | .call g es, w, ρ0, ρ, M, er => RG.bind (evEs_mm hc es w ρ0 ρ M er) fun ds M1 => hc g ds M1
  | .prim p es, w, ρ0, ρ, M, er => RG.bind (evEs_mm hc es w ρ0 ρ M er) fun ds M1 => prim_mm p ds
  | .mth m o a, w, ρ0, ρ, M, er => RG.bind (evE_mm hc o (ba2 w).1 ρ0 ρ M er) fun d M1 => RG.chk (isL_mm d).symm (RG.bind (evE_mm hc a (ba2 w).2 ρ0 ρ M1 er) fun e M2 => mth_mm m d e)
  | .comp own s es tg ifs elt, w, ρ0, ρ, M, er => by
    refine RG.bind (s := shW M0.length) (RG.bind (evEs_mm hc es (ba2 w).1 ρ0 ρ M er) fun ds M1 => RG.opt (src_mm s ds)) fun it M1 => ?_
    rw [most_mm, mm_len, show mm M0 M1 ++ [Cell.lst []] = mm M0 (M1 ++ [.lst []]) from mm_app (.lst [])]
    refine cloop_mm (fun d M2 => ?_) _ _ _
    have hg := evG_mm hc tg (ba2 (ba2 w).2).1 d (wipe ρ0 own) (wipe ρ own) M2 (er.wipe own)
    generalize evG call tg d (wipe ρ0 own) M2 = r0 at hg ⊢
    generalize evG call tg (sh M0.length d) (wipe ρ own) (mm M0 M2) = r at hg ⊢
    cases r0 with
    | nx ρ1 M3 =>
      obtain ⟨ρ2, rfl, e2⟩ := hg
      refine RG.bind (s := id) (evC_mm hc ifs (ba2 (ba2 (ba2 w).2).2).1 ρ1 ρ2 M3 e2) fun b M4 => ?_
      cases b with
      | true => exact RG.bind (evE_mm hc elt (ba2 (ba2 (ba2 w).2).2).2 ρ1 ρ2 M4 e2) fun y M5 => rfl
      | false => exact rfl
    | _ => trivial
  | .lam n h ret body, w, ρ0, ρ, M, er => by
    have hb := evE_mm hc body (ba2 (ba2 w).2).2 ρ0 ρ M er
    show RG M0 _ (lamR n h ret (evE call body ρ0 M)) (lamR n h ret (evE call body ρ (mm M0 M)))
    generalize evE call body ρ0 M = r0 at hb
    generalize evE call body ρ (mm M0 M) = r at hb
    cases r0 with
    | bad => trivial
    | ok d M1 =>
      rw [show r = _ from hb]
      show R.ok ret _ = R.ok (sh M0.length ret) _
      rw [sh_lf _ (ba2 (ba2 w).2).1]
    | exc e M1 =>
      rw [show r = _ from hb]
      show RG M0 _ (match decide (e.c < n) with
        | true => opt (findH h e.c) M1
        | false => .bad) (match decide (e.c < n) with
        | true => opt (findH h e.c) (mm M0 M1)
        | false => .bad)
      cases decide (e.c < n) with
      | false => exact RG.bad
      | true => exact RG.opt fun d hd => by rw [sh_lf _ (findH_lf (ba2 w).1 hd)]; exact hd
theorem evEs_mm (hc : CallMM M0 call) : ∀ (es : IEs), wfEs es = true → ∀ (ρ0 ρ : Env) (M : Mem), ER M0.length ρ0 ρ → RG M0 (shs M0.length) (evEs call es ρ0 M) (evEs call es ρ (mm M0 M))
  | .nil, _, _, _, _, _ => rfl
  | .cons e r, w, ρ0, ρ, M, er => RG.bind (evE_mm hc e (ba2 w).1 ρ0 ρ M er) fun d M1 => RG.bind (evEs_mm hc r (ba2 w).2 ρ0 ρ M1 er) fun ds M2 => rfl
theorem evO_mm (hc : CallMM M0 call) : ∀ (o : IEo), wfO o = true → ∀ (ρ0 ρ : Env) (M : Mem), ER M0.length ρ0 ρ → RG M0 id (evO call o ρ0 M) (evO call o ρ (mm M0 M))
  | .no, _, _, _, _, _ => rfl
  | .yes e, w, ρ0, ρ, M, er => RG.bind (evE_mm hc e w ρ0 ρ M er) fun d M1 => by cases d <;> first | exact rfl | exact RG.bad
theorem evC_mm (hc : CallMM M0 call) : ∀ (es : IEs), wfEs es = true → ∀ (ρ0 ρ : Env) (M : Mem), ER M0.length ρ0 ρ → RG M0 id (evC call es ρ0 M) (evC call es ρ (mm M0 M))
  | .nil, _, _, _, _, _ => rfl
  | .cons e r, w, ρ0, ρ, M, er => RG.bind (evE_mm hc e (ba2 w).1 ρ0 ρ M er) fun d M1 => RG.truth (evC_mm hc r (ba2 w).2 ρ0 ρ M1 er) rfl
theorem evG_mm (hc : CallMM M0 call) : ∀ (t : ITg), wfG t = true → ∀ (d : D) (ρ0 ρ : Env) (M : Mem), ER M0.length ρ0 ρ → RF M0 (evG call t d ρ0 M) (evG call t (sh M0.length d) ρ (mm M0 M))
  | .name i, _, d, ρ0, ρ, M, er => ⟨_, rfl, er.set i d⟩
  | .tup ts, w, d, ρ0, ρ, M, er => by
    show RF M0 (match items M d with
      | some ds => match decide (ds.length = ts.len) with
        | true => evGs call ts ds ρ0 M
        | false => .bad
      | none => .bad) (match items (mm M0 M) (sh M0.length d) with
      | some ds => match decide (ds.length = ts.len) with
        | true => evGs call ts ds ρ (mm M0 M)
        | false => .bad
      | none => .bad)
    rw [items_mm]
    cases items M d with
    | none => trivial
    | some ds =>
      show RF M0 (match decide (ds.length = ts.len) with
        | true => evGs call ts ds ρ0 M
        | false => .bad) (match decide ((shs M0.length ds).length = ts.len) with
        | true => evGs call ts (shs M0.length ds) ρ (mm M0 M)
        | false => .bad)
      rw [shs_len]
      cases decide (ds.length = ts.len) with
      | false => trivial
      | true => exact evGs_mm hc ts w ds ρ0 ρ M er
  | .sub o i, w, d, ρ0, ρ, M, er => by
    refine RF.toF (evE_mm hc o (ba2 w).1 ρ0 ρ M er) er fun a M1 => RF.toF (evE_mm hc i (ba2 w).2 ρ0 ρ M1 er) er fun b M2 => ?_
    cases q : setItem M2 a b d with
    | none => trivial
    | some M3 => rw [setItem_mm a b d M3 q]; exact ⟨ρ, rfl, er⟩
theorem evGs_mm (hc : CallMM M0 call) : ∀ (ts : ITgs), wfGs ts = true → ∀ (ds : List D) (ρ0 ρ : Env) (M : Mem), ER M0.length ρ0 ρ → RF M0 (evGs call ts ds ρ0 M) (evGs call ts (shs M0.length ds) ρ (mm M0 M))
  | .nil, _, [], ρ0, ρ, M, er => ⟨ρ, rfl, er⟩
  | .nil, _, _ :: _, _, _, _, _ => trivial
  | .cons _ _, _, [], _, _, _, _ => trivial
  | .cons t r, w, d :: ds, ρ0, ρ, M, er => RF.seq (evG_mm hc t (ba2 w).1 d ρ0 ρ M er) fun ρ1 ρ2 M1 e2 => evGs_mm hc r (ba2 w).2 ds ρ1 ρ2 M1 e2
end
theorem evT_mm (hc : CallMM M0 call) (e : IE) (w : wfE e = true) (ρ0 ρ : Env) (M : Mem) (er : ER M0.length ρ0 ρ) : RG M0 id (evT call e ρ0 M) (evT call e ρ (mm M0 M)) :=
  RG.bind (evE_mm hc e w ρ0 ρ M er) fun d M1 => by
    rw [truth_mm]
    exact RG.opt fun b h => h
mutual
theorem evS_mm (hc : CallMM M0 call) : ∀ (s : IS), wfS s = true → ∀ (ρ0 ρ : Env) (M : Mem), ER M0.length ρ0 ρ → RF M0 (evS call s ρ0 M) (evS call s ρ (mm M0 M))
  | .asg t e, w, ρ0, ρ, M, er => RF.toF (evE_mm hc e (ba2 w).2 ρ0 ρ M er) er fun d M1 => evG_mm hc t (ba2 w).1 d ρ0 ρ M1 er
  | .expr e, w, ρ0, ρ, M, er => RF.toF (evE_mm hc e w ρ0 ρ M er) er fun d M1 => ⟨ρ, rfl, er⟩
  | .ret e, w, ρ0, ρ, M, er => RF.toF (evE_mm hc e w ρ0 ρ M er) er fun d M1 => ⟨ρ, rfl, er⟩
  | .retn, w, ρ0, ρ, M, er => ⟨ρ, rfl, er⟩
  | .pass, w, ρ0, ρ, M, er => ⟨ρ, rfl, er⟩
  | .brk, w, ρ0, ρ, M, er => ⟨ρ, rfl, er⟩
  | .cont, w, ρ0, ρ, M, er => ⟨ρ, rfl, er⟩
  | .rais c, w, ρ0, ρ, M, er => ⟨ρ, rfl, er⟩
  | .ifs c a b, w, ρ0, ρ, M, er => RF.toF (evT_mm hc c (ba2 w).1 ρ0 ρ M er) er fun t M1 => by
    cases t with
    | true => exact evSs_mm hc a (ba2 (ba2 w).2).1 ρ0 ρ M1 er
    | false => exact evSs_mm hc b (ba2 (ba2 w).2).2 ρ0 ρ M1 er
  | .forr s es t b, w, ρ0, ρ, M, er => by
    refine RF.toF (s := shW M0.length) (RG.bind (evEs_mm hc es (ba2 w).1 ρ0 ρ M er) fun ds M1 => RG.opt (src_mm s ds)) er fun it M1 => ?_
    rw [most_mm]
    exact loop_mm (fun d ρ1 ρ2 M2 e2 => RF.seq (evG_mm hc t (ba2 (ba2 w).2).1 d ρ1 ρ2 M2 e2) fun ρ3 ρ4 M3 e3 => evSs_mm hc b (ba2 (ba2 w).2).2 ρ3 ρ4 M3 e3) _ _ ρ0 ρ M1 er
  | .whl c b, w, ρ0, ρ, M, er => wloop_mm (fun ρ1 ρ2 M1 e1 => evT_mm hc c (ba2 w).1 ρ1 ρ2 M1 e1) (fun ρ1 ρ2 M1 e1 => evSs_mm hc b (ba2 w).2 ρ1 ρ2 M1 e1) _ ρ0 ρ M er
  | .tryr b n h, w, ρ0, ρ, M, er => by
    have hb := evSs_mm hc b (ba2 w).1 ρ0 ρ M er
    show RF M0 (tryF n h (evSs call b ρ0 M)) (tryF n h (evSs call b ρ (mm M0 M)))
    generalize evSs call b ρ0 M = r0 at hb
    generalize evSs call b ρ (mm M0 M) = r at hb
    cases r0 with
    | ex e ρ1 M1 =>
      obtain ⟨ρ2, rfl, e2⟩ := hb
      show RF M0 (match decide (e.c < n) with
        | true => match findH h e.c with
          | some d => .rt d ρ1 M1
          | none => .ex e ρ1 M1
        | false => .bad) (match decide (e.c < n) with
        | true => match findH h e.c with
          | some d => .rt d ρ2 (mm M0 M1)
          | none => .ex ⟨e.c, e.d.map (sh M0.length)⟩ ρ2 (mm M0 M1)
        | false => .bad)
      cases decide (e.c < n) with
      | false => trivial
      | true =>
        simp only
        cases q : findH h e.c with
        | none => exact ⟨ρ2, rfl, e2⟩
        | some d => exact ⟨ρ2, by rw [sh_lf _ (findH_lf (ba2 w).2 q)], e2⟩
    | nx ρ1 M1 => obtain ⟨ρ2, rfl, e2⟩ := hb; exact ⟨ρ2, rfl, e2⟩
    | rt d ρ1 M1 => obtain ⟨ρ2, rfl, e2⟩ := hb; exact ⟨ρ2, rfl, e2⟩
    | bk ρ1 M1 => obtain ⟨ρ2, rfl, e2⟩ := hb; exact ⟨ρ2, rfl, e2⟩
    | ct ρ1 M1 => obtain ⟨ρ2, rfl, e2⟩ := hb; exact ⟨ρ2, rfl, e2⟩
    | bad => trivial
theorem evSs_mm (hc : CallMM M0 call) : ∀ (b : ISs), wfSs b = true → ∀ (ρ0 ρ : Env) (M : Mem), ER M0.length ρ0 ρ → RF M0 (evSs call b ρ0 M) (evSs call b ρ (mm M0 M))
  | .nil, _, ρ0, ρ, M, er => ⟨ρ, rfl, er⟩
  | .cons s r, w, ρ0, ρ, M, er => RF.seq (evS_mm hc s (ba2 w).1 ρ0 ρ M er) fun ρ1 ρ2 M1 e1 => evSs_mm hc r (ba2 w).2 ρ1 ρ2 M1 e1
end
theorem callD_mm {P : List Def} (hP : (P.all fun f => wfSs f.body) = true) : ∀ k, CallMM M0 (callD P k)
  | 0 => fun _ _ _ => trivial
  | k + 1 => fun g ds M => by
    unfold callD
    cases q : P[g]? with
    | none => exact RG.bad
    | some f =>
      simp only
      rw [shs_len]
      cases decide (ds.length = f.ps) with
      | false => exact RG.bad
      | true =>
        simp only
        have er : ER M0.length (ds.map some ++ List.replicate (f.n - f.ps) none) ((shs M0.length ds).map some ++ List.replicate (f.n - f.ps) none) := by
          refine ⟨by simp [shs_len], fun i d h => ?_⟩
          by_cases hi : i < ds.length
          · rw [List.getElem?_append_left (by simpa using hi), List.getElem?_map] at h
            rw [List.getElem?_append_left (by simpa [shs_len] using hi), List.getElem?_map, shs_get]
            cases q : ds[i]? with
            | none => rw [q] at h; cases h
            | some d' =>
              rw [q] at h
              have : d' = d := by simpa using h
              subst this
              rfl
          · rw [List.getElem?_append_right (by simpa using hi), List.getElem?_replicate] at h
            split at h <;> cases h
        have hb := evSs_mm (callD_mm hP k) f.body (List.all_eq_true.mp hP f (List.mem_of_getElem? q)) _ _ M er
        generalize evSs (callD P k) f.body (ds.map some ++ List.replicate (f.n - f.ps) none) M = r0 at hb
        generalize evSs (callD P k) f.body ((shs M0.length ds).map some ++ List.replicate (f.n - f.ps) none) (mm M0 M) = r at hb
        cases r0 with
        | nx ρ1 M1 => obtain ⟨ρ2, rfl, _⟩ := hb; exact rfl
        | rt d ρ1 M1 => obtain ⟨ρ2, rfl, _⟩ := hb; exact rfl
        | ex e ρ1 M1 => obtain ⟨ρ2, rfl, _⟩ := hb; exact rfl
        | _ => trivial
end
end DL

/-! DL: the laws' own draws -/
namespace DL
open PySem
def f_cup : Def := ⟨1, 2,
    (.cons (.asg (.name 1) (.prim .abs (.cons (.idx (.bin .add (.prim .list (.cons (.var 0) .nil)) (.lst (.cons (.cst (.int (0))) .nil))) (.cst (.int (0)))) .nil)))
    (.cons (.ret (.lst (.cons (.ifx (.cmp .ge (.var 1) (.bin .pow (.cst (.int (10))) (.cst (.int (18))))) (.bin .fdiv (.var 1) (.cst (.int (137)))) (.cst (.int (0)))) (.cons (.bin .add (.bin .mod (.prim .int1 (.cons (.bin .add (.bin .mul (.var 1) (.cst (.int (367)))) (.cst (.int (2803)))) .nil)) (.cst (.int (2077502993)))) (.cst (.int (239)))) .nil))))
    .nil))⟩
def f_roll : Def := ⟨2, 4,
    (.cons (.ifs (.cmp .gt (.idx (.var 0) (.cst (.int (0)))) (.cst (.int (0)))) (.cons (.asg (.name 3) (.bin .mod (.prim .int1 (.cons (.idx (.var 0) (.cst (.int (0)))) .nil)) (.var 1)))
    (.cons (.asg (.sub (.var 0) (.cst (.int (0)))) (.bin .fdiv (.idx (.var 0) (.cst (.int (0)))) (.var 1)))
    (.cons (.ret (.var 3))
    .nil))) .nil)
    (.cons (.asg (.sub (.var 0) (.cst (.int (1)))) (.bin .mod (.prim .int1 (.cons (.bin .add (.bin .mul (.idx (.var 0) (.cst (.int (1)))) (.cst (.int (31183)))) (.cst (.int (8147)))) .nil)) (.cst (.int (2147483543)))))
    (.cons (.asg (.name 2) (.bin .mod (.prim .int1 (.cons (.bin .mul (.idx (.var 0) (.cst (.int (1)))) (.bin .add (.idx (.var 0) (.cst (.int (1)))) (.cst (.int (311))))) .nil)) (.cst (.int (2147483587)))))
    (.cons (.ret (.bin .mod (.prim .int1 (.cons (.bin .fdiv (.var 2) (.cst (.int (911)))) .nil)) (.var 1)))
    .nil))))⟩
def f_some (g : Nat) : Def := ⟨2, 2,
    (.cons (.ret (.idx (.var 1) (.call g (.cons (.var 0) (.cons (.prim .len (.cons (.var 1) .nil)) .nil)))))
    .nil)⟩
/-! ### steps -/
section
variable {α β : Type} {M : Mem} {ρ : Env}
theorem r_ok {a : α} {f : α → Mem → R β} : (R.ok a M).bind f = f a M := rfl
theorem r_exc {e : Exn} {f : α → Mem → R β} : (R.exc e M : R α).bind f = .exc e M := rfl
theorem f_ok {a : α} {f : α → Mem → F} : (R.ok a M).toF ρ f = f a M := rfl
theorem f_exc {e : Exn} {f : α → Mem → F} : (R.exc e M : R α).toF ρ f = .ex e ρ M := rfl
theorem q_nx {f : Env → Mem → F} : (F.nx ρ M).seq f = f ρ M := rfl
theorem q_rt {d : D} {f : Env → Mem → F} : (F.rt d ρ M).seq f = .rt d ρ M := rfl
theorem q_ex {e : Exn} {f : Env → Mem → F} : (F.ex e ρ M).seq f = .ex e ρ M := rfl
theorem q_bk {f : Env → Mem → F} : (F.bk ρ M).seq f = .bk ρ M := rfl
theorem q_ct {f : Env → Mem → F} : (F.ct ρ M).seq f = .ct ρ M := rfl
theorem o_some {a : α} : opt (some a) M = .ok a M := rfl
theorem k_true {r : R α} : chk true r = r := rfl
theorem p_abs' {i : Int} : prim M .abs [.int i] = .ok (.int (if i < 0 then -i else i)) M := rfl
theorem p_int' {i : Int} : prim M .int1 [.int i] = .ok (.int i) M := rfl
theorem p_min' {i j : Int} : prim M .min2 [.int i, .int j] = .ok (.int (if j < i then j else i)) M := rfl
theorem p_max' {i j : Int} : prim M .max2 [.int i, .int j] = .ok (.int (if j > i then j else i)) M := rfl
theorem p_lstro {ds : List D} : prim M .list [.ro ds] = .ok (.loc M.length) (M ++ [.lst ds]) := rfl
theorem p_lenT {ds : List D} : prim M .len [.tup ds] = .ok (.int ds.length) M := rfl
theorem b_int {o : BOp} {i j : Int} : binop M o (.int i) (.int j) = opt (bini o i j) M := rfl
theorem n_add {i j : Int} : bini .add i j = some (.int (i + j)) := rfl
theorem n_sub {i j : Int} : bini .sub i j = some (.int (i - j)) := rfl
theorem c_eq {d e : D} : cmpop M .eq d e = deq M d e := rfl
theorem c_ne {d e : D} : cmpop M .ne d e = (deq M d e).map (!·) := rfl
theorem d_int {i j : Int} : deq M (.int i) (.int j) = some (i == j) := by simp [deq, toP, toP0, PyData.eqv]
theorem d_ii {i j i' j' : Int} : deq M (.tup [.int i, .int j]) (.tup [.int i', .int j']) = some (i == i' && j == j') := by simp [deq, toP, toP0, mapO, PyData.eqv, PyData.eqvAll]
theorem c_ge {i j : Int} : cmpop M .ge (.int i) (.int j) = some (decide (j ≤ i)) := rfl
theorem c_gt {i j : Int} : cmpop M .gt (.int i) (.int j) = some (decide (j < i)) := rfl
theorem c_le {i j : Int} : cmpop M .le (.int i) (.int j) = some (decide (i ≤ j)) := rfl
theorem c_lt {i j : Int} : cmpop M .lt (.int i) (.int j) = some (decide (i < j)) := rfl
theorem t_bl {b : Bool} : truth M (.bl b) = some b := rfl
theorem x_tup {ds : List D} {i : Int} : idx M (.tup ds) (.int i) = atI ds i := rfl
end
theorem call_eq {P : List Def} {k g : Nat} {ds : List D} {M : Mem} {f : Def} (h : P[g]? = some f) (hl : ds.length = f.ps) : callD P (k + 1) g ds M = (evSs (callD P k) f.body (ds.map some ++ List.replicate (f.n - f.ps) none) M).toR := by
  show (match P[g]? with
    | some f => match decide (ds.length = f.ps) with
      | true => (evSs (callD P k) f.body (ds.map some ++ List.replicate (f.n - f.ps) none) M).toR
      | false => .bad
    | none => .bad) = _
  rw [h]
  simp only [hl, decide_true]
section
variable {M : Mem}
theorem u_not {b : Bool} : unop M .not (.bl b) = some (.bl (!b)) := rfl
theorem i_int (v : Int) : prim M (.isinst ["int"]) [.int v] = .ok (.bl true) M := rfl
theorem i_intB (v : Int) : prim M (.isinst ["bool"]) [.int v] = .ok (.bl false) M := rfl
theorem i_intT (v : Int) : prim M (.isinst ["tuple"]) [.int v] = .ok (.bl false) M := rfl
theorem i_tup (ds : List D) : prim M (.isinst ["tuple"]) [.tup ds] = .ok (.bl true) M := rfl
theorem i_tupB (ds : List D) : prim M (.isinst ["bool"]) [.tup ds] = .ok (.bl false) M := rfl
theorem i_tupI (ds : List D) : prim M (.isinst ["int"]) [.tup ds] = .ok (.bl false) M := rfl
theorem i_lstT {l : Nat} {ds : List D} (h : M[l]? = some (.lst ds)) : prim M (.isinst ["tuple"]) [.loc l] = .ok (.bl false) M := by
  simp only [prim, isI, tyOf, h]; rfl
theorem n_mul {i j : Int} (h : smallI i = true ∨ smallI j = true) : bini .mul i j = some (.int (i * j)) := by
  have : (smallI i || smallI j) = true := by simpa using h
  simp only [bini, this, if_true]
theorem n_fdiv {i j : Int} (h : 0 < j) (h2 : smallI j = true) : bini .fdiv i j = some (.int (i / j)) := by
  simp only [bini, h, h2, decide_true, Bool.and_true, if_true]
theorem n_mod {i j : Int} (h : 0 < j) : bini .mod i j = some (.int (i % j)) := by
  simp only [bini, h, if_true]
theorem n_shr {i j : Int} (h : 0 ≤ j) : bini .shr i j = some (.int (i / 2 ^ j.toNat)) := by
  simp only [bini, h, if_true]
end
/-- the cup at c -/
def CupAt (c : Nat) (M : Mem) : Prop := ∃ a b : Int, M[c]? = some (.lst [.int a, .int b]) ∧ 0 ≤ a ∧ 0 ≤ b
/-- but for the cup, and new cells, M' is M -/
def Upd (c : Nat) (M M' : Mem) : Prop := M.length ≤ M'.length ∧ ∀ i, i < M.length → i ≠ c → M'[i]? = M[i]?
theorem Upd.refl {c : Nat} {M : Mem} : Upd c M M := ⟨Nat.le_refl _, fun _ _ _ => rfl⟩
theorem Upd.trans {c : Nat} {M M1 M2 : Mem} (a : Upd c M M1) (b : Upd c M1 M2) : Upd c M M2 := ⟨Nat.le_trans a.1 b.1, fun i h n => by rw [b.2 i (Nat.lt_of_lt_of_le h a.1) n, a.2 i h n]⟩
theorem lstOf_of {M : Mem} {n : Nat} {ds : List D} (h : M[n]? = some (.lst ds)) : lstOf M n = some ds := by
  unfold lstOf; rw [h]
theorem at_lt {M : Mem} {n : Nat} {c : Cell} (h : M[n]? = some c) : n < M.length := (List.getElem?_eq_some_iff.mp h).1
theorem cup_app {c : Nat} {M : Mem} (x : Cell) (h : CupAt c M) : CupAt c (M ++ [x]) := by
  obtain ⟨a, b, h1, h2⟩ := h
  exact ⟨a, b, by rw [List.getElem?_append_left (at_lt h1)]; exact h1, h2⟩
theorem upd_app {c : Nat} {M : Mem} (x : Cell) : Upd c M (M ++ [x]) := ⟨by simp, fun i h _ => List.getElem?_append_left h⟩
theorem cup_apps {c : Nat} {M : Mem} (X : Mem) (h : CupAt c M) : CupAt c (M ++ X) := by
  obtain ⟨a, b, h1, h2⟩ := h
  exact ⟨a, b, by rw [List.getElem?_append_left (at_lt h1)]; exact h1, h2⟩
/-- a draw -/
theorem roll_ok {P : List Def} {g k c : Nat} {M : Mem} {many : Int} (hP : P[g]? = some f_roll) (hc : CupAt c M) (h1 : 0 < many) (h2 : many < 18446744073709551616) :
    ∃ (r : Int) (M' : Mem), callD P (k + 1) g [.loc c, .int many] M = .ok (.int r) M' ∧ 0 ≤ r ∧ r < many ∧ CupAt c M' ∧ Upd c M M' ∧ M'.length = M.length := by
  obtain ⟨a, b, hM, ha, hb⟩ := hc
  have hl := at_lt hM
  have e0 : lstOf M c = some [.int a, .int b] := lstOf_of hM
  have sm : smallI many = true := by unfold smallI; simp only [Bool.and_eq_true, decide_eq_true_eq]; omega
  by_cases hz : 0 < a
  · refine ⟨a % many, M.set c (.lst [.int (a / many), .int b]), ?_, Int.emod_nonneg _ (by omega), Int.emod_lt_of_pos _ h1, ⟨a / many, b, by rw [List.getElem?_set_self hl], Int.ediv_nonneg ha (by omega), hb⟩, ⟨by simp, fun i hi hn => by rw [List.getElem?_set_ne (Ne.symm hn)]⟩, by simp⟩
    simp [callD, hP, f_roll, evSs, evS, evT, evE, evEs, evG, R.bind, R.toF, F.seq, F.toR, truth, cmpop, cmpi, idx, items, e0, atI, ixN, opt, bini, binop, prim, hz, h1, sm, setItem]
  · have hb' : 0 ≤ (b * 31183 + 8147) % 2147483543 := Int.emod_nonneg _ (by decide)
    have hb2 : (b * 31183 + 8147) % 2147483543 < 2147483543 := Int.emod_lt_of_pos _ (by decide)
    refine ⟨((b * 31183 + 8147) % 2147483543 * ((b * 31183 + 8147) % 2147483543 + 311)) % 2147483587 / 911 % many, M.set c (.lst [.int a, .int ((b * 31183 + 8147) % 2147483543)]), ?_, Int.emod_nonneg _ (by omega), Int.emod_lt_of_pos _ h1, ⟨a, _, by rw [List.getElem?_set_self hl], ha, hb'⟩, ⟨by simp, fun i hi hn => by rw [List.getElem?_set_ne (Ne.symm hn)]⟩, by simp⟩
    generalize hB : (b * 31183 + 8147) % 2147483543 = B at hb' hb2 ⊢
    have sB : smallI B = true := by unfold smallI; simp only [Bool.and_eq_true, decide_eq_true_eq]; omega
    have s1 : smallI 31183 = true := by decide
    have s2 : smallI 911 = true := by decide
    have e1 : lstOf (M.set c (.lst [.int a, .int B])) c = some [.int a, .int B] := lstOf_of (by rw [List.getElem?_set_self hl])
    simp [callD, hP, f_roll, evSs, evS, evT, evE, evEs, evG, R.bind, R.toF, F.seq, F.toR, truth, cmpop, cmpi, idx, items, e0, e1, atI, ixN, opt, bini, binop, prim, hz, h1, s1, s2, sB, setItem, hB]
/-- a thing drawn of a row -/
theorem some_ok {P : List Def} {g gr k c : Nat} {M : Mem} {d : D} {ds : List D} (hP : P[g]? = some (f_some gr)) (hR : P[gr]? = some f_roll) (hc : CupAt c M) (hi : items M d = some ds) (h1 : ds ≠ []) (h2 : ds.length < 18446744073709551616) (hd : ∀ l, d = .loc l → l ≠ c) :
    ∃ (i : Nat) (x : D) (M' : Mem), callD P (k + 2) g [.loc c, d] M = .ok x M' ∧ ds[i]? = some x ∧ CupAt c M' ∧ Upd c M M' ∧ M'.length = M.length := by
  have hl : 0 < ds.length := List.length_pos_iff.mpr h1
  obtain ⟨r, M', e, r0, r1, hc', hu, hn⟩ := roll_ok (k := k) hR hc (many := (ds.length : Int)) (by omega) (by omega)
  have hi' : items M' d = some ds := by
    cases d with
    | loc l =>
      have hi : lstOf M l = some ds := hi
      show lstOf M' l = some ds
      unfold lstOf at hi ⊢
      cases q : M[l]? with
      | none => rw [q] at hi; cases hi
      | some o => rw [hu.2 l (at_lt q) (hd l rfl)]; exact hi
    | _ => exact hi
  have hr : r.toNat < ds.length := by omega
  refine ⟨r.toNat, ds[r.toNat], M', ?_, List.getElem?_eq_getElem hr, hc', hu, hn⟩
  have hx : ixN ds.length r = some r.toNat := by unfold ixN; rw [if_pos r0, if_pos r1]
  have hat : atI ds r = some ds[r.toNat] := by unfold atI; rw [hx]; exact List.getElem?_eq_getElem hr
  have hidx : idx M' d (.int r) = some ds[r.toNat] := by unfold idx; simp only [hi', hat]
  have hlen : prim M .len [d] = .ok (.int ds.length) M := by simp only [prim, hi]
  show (match P[g]? with
    | some f => match decide ([D.loc c, d].length = f.ps) with
      | true => (evSs (callD P (k + 1)) f.body ([D.loc c, d].map some ++ List.replicate (f.n - f.ps) none) M).toR
      | false => .bad
    | none => .bad) = _
  rw [hP]
  simp only [f_some, evSs, evS, evE, evEs, R.bind, R.toF, F.seq, F.toR, List.map, List.length_cons, List.length_nil, List.cons_append, List.nil_append, List.getElem?_cons_zero, List.getElem?_cons_succ, hlen, e, hidx, opt, decide_true, List.replicate, Nat.sub_self]
/-- the cup made of the script -/
theorem cup_ok {P : List Def} {g k : Nat} {ns : List Int} (hP : P[g]? = some f_cup) (hl : ns.length ≤ 63) : ∃ M', callD P (k + 1) g [.ro (ns.map .int)] [] = .ok (.loc 3) M' ∧ CupAt 3 M' := by
  have hcell : ∃ z : Int, atI (ns.map D.int ++ [.int 0]) 0 = some (.int z) := by
    cases ns with
    | nil => exact ⟨0, rfl⟩
    | cons n r =>
      refine ⟨n, ?_⟩
      have : ixN ((n :: r).map D.int ++ [D.int 0]).length 0 = some 0 := by
        unfold ixN
        rw [if_pos (by decide), if_pos (by simp; omega)]
        rfl
      unfold atI
      rw [this]
      rfl
  obtain ⟨z, hz⟩ := hcell
  have habs : ∃ y : Int, 0 ≤ y ∧ (if z < 0 then -z else z) = y := ⟨_, by split <;> omega, rfl⟩
  obtain ⟨y, hy, ey⟩ := habs
  have s1 : smallI 367 = true := by decide
  have s2 : smallI 137 = true := by decide
  have p1 : bini .pow 10 18 = some (.int 1000000000000000000) := by rfl
  have p2 : bini .mul y 367 = some (.int (y * 367)) := by simp only [bini, s1, Bool.or_true, if_true]
  have p3 : bini .fdiv y 137 = some (.int (y / 137)) := by simp only [bini, s2]; rfl
  have p4 : bini .mod (y * 367 + 2803) 2077502993 = some (.int ((y * 367 + 2803) % 2077502993)) := by simp only [bini]; rfl
  have hadd : binop [.lst (ns.map D.int), .lst [.int 0]] .add (.loc 0) (.loc 1) = .ok (.loc 2) [.lst (ns.map D.int), .lst [.int 0], .lst (ns.map D.int ++ [.int 0])] := by
    show catL [.lst (ns.map D.int), .lst [.int 0]] 0 1 = _
    unfold catL
    show (chk (decide ((ns.map D.int).length + 1 ≤ line)) _ : R D) = _
    rw [show decide ((ns.map D.int).length + 1 ≤ line) = true by unfold line; simp; omega]
    rfl
  have hix : idx [.lst (ns.map D.int), .lst [.int 0], .lst (ns.map D.int ++ [.int 0])] (.loc 2) (.int 0) = some (.int z) := hz
  have hb : 0 ≤ (y * 367 + 2803) % 2077502993 + 239 := by have := Int.emod_nonneg (y * 367 + 2803) (b := 2077502993) (by decide); omega
  have key : ∃ A B : Int, 0 ≤ A ∧ 0 ≤ B ∧ callD P (k + 1) g [.ro (ns.map .int)] [] = .ok (.loc 3) [.lst (ns.map D.int), .lst [.int 0], .lst (ns.map D.int ++ [.int 0]), .lst [.int A, .int B]] := by
    by_cases hbig : (1000000000000000000 : Int) ≤ y
    · refine ⟨y / 137, (y * 367 + 2803) % 2077502993 + 239, Int.ediv_nonneg hy (by decide), hb, ?_⟩
      simp only [callD, hP, f_cup, evSs, evS, evE, evEs, evG, p_lstro, List.length_nil, List.nil_append, List.cons_append, r_ok, f_ok, q_nx, q_rt, List.map, List.length_cons, List.getElem?_cons_zero, List.getElem?_cons_succ, decide_true, List.replicate, Nat.sub_self, Nat.reduceSub, Nat.reduceAdd, hadd, hix, o_some, p_abs', ey, List.set, b_int, p1, c_ge, hbig, Option.map, truth, p2, p3, p4, n_add, p_int', F.toR]
    · refine ⟨0, (y * 367 + 2803) % 2077502993 + 239, Int.le_refl 0, hb, ?_⟩
      simp only [callD, hP, f_cup, evSs, evS, evE, evEs, evG, p_lstro, List.length_nil, List.nil_append, List.cons_append, r_ok, f_ok, q_nx, q_rt, List.map, List.length_cons, List.getElem?_cons_zero, List.getElem?_cons_succ, decide_true, decide_false, List.replicate, Nat.sub_self, Nat.reduceSub, Nat.reduceAdd, hadd, hix, o_some, p_abs', ey, List.set, b_int, p1, c_ge, hbig, Option.map, truth, p2, p3, p4, n_add, p_int', F.toR]
  obtain ⟨A, B, hA, hB, e⟩ := key
  exact ⟨_, e, A, B, rfl, hA, hB⟩
theorem ss_nx {call : Nat → List D → Mem → R D} {s : IS} {r : ISs} {ρ ρ' : Env} {M M' : Mem} (h : evS call s ρ M = .nx ρ' M') : evSs call (.cons s r) ρ M = evSs call r ρ' M' := by
  show (evS call s ρ M).seq (evSs call r) = _
  rw [h]; rfl
theorem ss_rt {call : Nat → List D → Mem → R D} {s : IS} {r : ISs} {ρ ρ' : Env} {M M' : Mem} {d : D} (h : evS call s ρ M = .rt d ρ' M') : evSs call (.cons s r) ρ M = .rt d ρ' M' := by
  show (evS call s ρ M).seq (evSs call r) = _
  rw [h]; rfl
/-! ### loops -/
theorem loop_rng {lo c : Int} {n : Nat} {st : D → Env → Mem → F} (I : Nat → Env → Mem → Prop) (hs : ∀ i ρ M, i < n → I i ρ M → ∃ ρ' M', st (.int (lo + (i : Nat) * c)) ρ M = .nx ρ' M' ∧ I (i + 1) ρ' M') :
    ∀ (m i : Nat) (ρ : Env) (M : Mem), i + m = n → I i ρ M → ∃ ρ' M', loop (.rng lo c n) st (m + 1) i ρ M = .nx ρ' M' ∧ I n ρ' M'
  | 0, i, ρ, M, e, h => by
    have : i = n := by omega
    subst this
    refine ⟨ρ, M, ?_, h⟩
    unfold loop Wk.at
    simp
  | m + 1, i, ρ, M, e, h => by
    obtain ⟨ρ1, M1, e1, h1⟩ := hs i ρ M (by omega) h
    obtain ⟨ρ2, M2, e2, h2⟩ := loop_rng I hs m (i + 1) ρ1 M1 (by omega) h1
    refine ⟨ρ2, M2, ?_, h2⟩
    rw [loop]
    have : Wk.at M i (.rng lo c n) = .yld (.int (lo + (i : Nat) * c)) := by unfold Wk.at; simp only; rw [if_pos (by omega)]
    rw [this]
    simp only [e1]
    exact e2
theorem cloop_stop {it : Wk} {n f i : Nat} {st : D → Mem → R (Option D)} {M : Mem} (h : it.at M i = .stop) : cloop it n st (f + 1) i M = .ok (.loc n) M := by
  rw [cloop, h]
theorem cloop_skip {it : Wk} {n f i : Nat} {st : D → Mem → R (Option D)} {M M' : Mem} {d : D} (h : it.at M i = .yld d) (e : st d M = .ok none M') : cloop it n st (f + 1) i M = cloop it n st f (i + 1) M' := by
  rw [cloop, h]
  simp only [e]
theorem cloop_put {it : Wk} {n f i : Nat} {st : D → Mem → R (Option D)} {M M' : Mem} {d y : D} {ds : List D} (h : it.at M i = .yld d) (e : st d M = .ok (some y) M') (hl : lstOf M' n = some ds) (hs : ds.length < line) : cloop it n st (f + 1) i M = cloop it n st f (i + 1) (M'.set n (.lst (ds ++ [y]))) := by
  rw [cloop, h]
  simp only [e, hl, hs, decide_true]
theorem loop_stop {it : Wk} {f i : Nat} {st : D → Env → Mem → F} {ρ : Env} {M : Mem} (h : it.at M i = .stop) : loop it st (f + 1) i ρ M = .nx ρ M := by
  rw [loop, h]
theorem loop_nx {it : Wk} {f i : Nat} {st : D → Env → Mem → F} {ρ ρ' : Env} {M M' : Mem} {d : D} (h : it.at M i = .yld d) (e : st d ρ M = .nx ρ' M') : loop it st (f + 1) i ρ M = loop it st f (i + 1) ρ' M' := by
  rw [loop, h]
  simp only [e]
def isT : F → Bool
  | .rt (.bl true) _ _ => true
  | _ => false
/-- what follows needs nothing of what went ahead: it may be run from nothing -/
theorem ground_rt {P : List Def} {k : Nat} {b : ISs} {ρ0 ρ : Env} {M : Mem} (hP : (P.all fun f => wfSs f.body) = true) (hb : wfSs b = true) (h : isT (evSs (callD P k) b ρ0 []) = true) (hn : ρ0 = List.replicate ρ.length none) : ∃ ρ' M', evSs (callD P k) b ρ M = .rt (.bl true) ρ' M' := by
  have er : ER M.length ρ0 ρ := by
    subst hn
    refine ⟨by simp, fun i d q => ?_⟩
    rw [List.getElem?_replicate] at q
    split at q <;> cases q
  have hm := evSs_mm (callD_mm (M0 := M) hP k) b hb ρ0 ρ [] er
  rw [show mm M [] = M by simp [mm]] at hm
  generalize evSs (callD P k) b ρ0 [] = r0 at hm h
  cases r0 with
  | rt d ρ1 M1 =>
    cases d with
    | bl t =>
      cases t with
      | true => obtain ⟨ρ2, e, _⟩ := hm; exact ⟨ρ2, _, e⟩
      | false => cases h
    | _ => cases h
  | _ => cases h
/-- a call that needs nothing of the memory -/
theorem call_any {P : List Def} {k g : Nat} {ds : List D} {d : D} {M M1 : Mem} (hP : (P.all fun f => wfSs f.body) = true) (hl : lfs ds = true) (hd : lf d = true) (h : callD P k g ds [] = .ok d M1) : ∃ X, callD P k g ds M = .ok d (M ++ X) := by
  have hm := callD_mm (M0 := M) hP k g ds []
  rw [h, show mm M [] = M by simp [mm], shs_lf _ hl] at hm
  exact ⟨_, by rw [show callD P k g ds M = _ from hm, sh_lf _ hd]; rfl⟩
end DL

namespace Law
open PySem PySem.Spec PyProof.Rows L2 DL
def top (i : Nat) : Stmt := PySem.Challenge.pw_framepress_k05_chances_that_learn.main.body.getD i (.Pass ⟨0, 0, 0, 0⟩)
def subT : List (List Nat) := [[0], [0, 1], [0, 2], [0, 3], [0, 4], [0, 5]]
def S : Sta := ⟨[("is_whole", .fn 0 3),
  ("is_tuple_of", .fn 1 3),
  ("need_number", .fn 2 3),
  ("fits_chance", .fn 3 1),
  ("learned_in", .fn 4 2),
  ("is_chance", .fn 5 1),
  ("learned", .fn 6 2),
  ("_law_cup", .fn 7 1),
  ("_law_roll", .fn 8 2),
  ("_law_some", .fn 9 2),
  ("_law_learned", .fn 10 2),
  ("_law_same", .fn 11 2),
  ("law", .fn 12 1),
  ("SPAN", .cst (.int (65536))),
  ("LEAST", .cst (.int (256))),
  ("MOST", .cst (.int (65280))),
  ("COUNT", .cst (.int (6))),
  ("FrameError", .exc 0),
  ("InvalidNumber", .exc 1),
  ("InvalidOctets", .exc 2),
  ("InvalidChance", .exc 3),
  ("InvalidRow", .exc 4),
  ("InvalidTelling", .exc 5),
  ("_law_error", .err 6 [([3], .str "chance"), ([1], .str "number"), ([2], .str "octets"), ([4], .str "row"), ([5], .str "telling"), ([0, 1, 2, 3, 4, 5], .str "other")] (.str ""))],
  ["abs", "bool", "int", "isinstance", "len", "list", "max", "min", "range", "tuple", "zip"], false, 6, fun a b => (subT.getD a []).contains b⟩
def N_is_whole : List Str := ["value", "low", "high"]
def d_is_whole : He.DefD := ⟨("is_whole", none), "is_whole", "is_whole", defArgs (top 8), defBody (top 8), defScope (top 8), [], []⟩
def N_is_tuple_of : List Str := ["value", "low", "high"]
def d_is_tuple_of : He.DefD := ⟨("is_tuple_of", none), "is_tuple_of", "is_tuple_of", defArgs (top 9), defBody (top 9), defScope (top 9), [], []⟩
def N_need_number : List Str := ["value", "low", "high"]
def d_need_number : He.DefD := ⟨("need_number", none), "need_number", "need_number", defArgs (top 10), defBody (top 10), defScope (top 10), [], []⟩
def N_fits_chance : List Str := ["value"]
def d_fits_chance : He.DefD := ⟨("fits_chance", none), "fits_chance", "fits_chance", defArgs (top 16), defBody (top 16), defScope (top 16), [], []⟩
def N_learned_in : List Str := ["chance", "bit", "rate", "own", "count"]
def d_learned_in : He.DefD := ⟨("learned_in", none), "learned_in", "learned_in", defArgs (top 17), defBody (top 17), defScope (top 17), [], []⟩
def N_is_chance : List Str := ["value"]
def d_is_chance : He.DefD := ⟨("is_chance", none), "is_chance", "is_chance", defArgs (top 18), defBody (top 18), defScope (top 18), [], []⟩
def N_learned : List Str := ["chance", "bit"]
def d_learned : He.DefD := ⟨("learned", none), "learned", "learned", defArgs (top 19), defBody (top 19), defScope (top 19), [], []⟩
def N__law_cup : List Str := ["script", "cell"]
def d__law_cup : He.DefD := ⟨("_law_cup", none), "_law_cup", "_law_cup", defArgs (top 21), defBody (top 21), defScope (top 21), [], []⟩
def N__law_roll : List Str := ["cup", "many", "deep", "found"]
def d__law_roll : He.DefD := ⟨("_law_roll", none), "_law_roll", "_law_roll", defArgs (top 22), defBody (top 22), defScope (top 22), [], []⟩
def N__law_some : List Str := ["cup", "things"]
def d__law_some : He.DefD := ⟨("_law_some", none), "_law_some", "_law_some", defArgs (top 23), defBody (top 23), defScope (top 23), [], []⟩
def N__law_learned : List Str := ["chance", "bit", "part", "own", "count"]
def d__law_learned : He.DefD := ⟨("_law_learned", none), "_law_learned", "_law_learned", defArgs (top 24), defBody (top 24), defScope (top 24), [], []⟩
def N__law_same : List Str := ["one", "other", "a", "b"]
def d__law_same : He.DefD := ⟨("_law_same", none), "_law_same", "_law_same", defArgs (top 25), defBody (top 25), defScope (top 25), [], []⟩
def N_law : List Str := ["script", "cup", "turn", "chance", "way", "rows", "odds", "words", "own", "bit", "due", "high", "low", "told", "odd"]
def d_law : He.DefD := ⟨("law", none), "law", "law", defArgs (top 27), defBody (top 27), defScope (top 27), [], []⟩
def N__law_error : List Str := ["call"]
def d__law_error : He.DefD := ⟨("_law_error", none), "_law_error", "_law_error", defArgs (top 26), defBody (top 26), defScope (top 26), [], []⟩
def fn : List He.DefD := [d_is_whole, d_is_tuple_of, d_need_number, d_fits_chance, d_learned_in, d_is_chance, d_learned, d__law_cup, d__law_roll, d__law_some, d__law_learned, d__law_same, d_law, d__law_error]
def Ns : List (List Str) := [N_is_whole, N_is_tuple_of, N_need_number, N_fits_chance, N_learned_in, N_is_chance, N_learned, N__law_cup, N__law_roll, N__law_some, N__law_learned, N__law_same, N_law]
def lams : List Bool := [false, false, false, false, false, false, false, false, false, false, false, false, true]
def xc : List Str := ["FrameError", "InvalidNumber", "InvalidOctets", "InvalidChance", "InvalidRow", "InvalidTelling"]
def tf : List (He.Defn × Str) := [(("law", none), "law")]
def f_is_whole : Def := ⟨3, 3,
    (.cons (.ret (.and (.prim (.isinst ["int"]) (.cons (.var 0) .nil)) (.and (.un .not (.prim (.isinst ["bool"]) (.cons (.var 0) .nil))) (.cmp2 .le .le (.var 1) (.var 0) (.var 2)))))
    .nil)⟩
def f_is_tuple_of : Def := ⟨3, 3,
    (.cons (.ret (.and (.prim (.isinst ["tuple"]) (.cons (.var 0) .nil)) (.cmp2 .le .le (.var 1) (.prim .len (.cons (.var 0) .nil)) (.var 2))))
    .nil)⟩
def f_need_number : Def := ⟨3, 3,
    (.cons (.ifs (.un .not (.call 0 (.cons (.var 0) (.cons (.var 1) (.cons (.var 2) .nil))))) (.cons (.rais 1)
    .nil) .nil)
    .nil)⟩
def f_fits_chance : Def := ⟨1, 1,
    (.cons (.ret (.and (.call 1 (.cons (.var 0) (.cons (.cst (.int (2))) (.cons (.cst (.int (2))) .nil)))) (.and (.call 0 (.cons (.idx (.var 0) (.cst (.int (0)))) (.cons (.cst (.int (256))) (.cons (.cst (.int (65280))) .nil)))) (.call 0 (.cons (.idx (.var 0) (.cst (.int (1)))) (.cons (.cst (.int (0))) (.cons (.cst (.int (6))) .nil)))))))
    .nil)⟩
def f_learned_in : Def := ⟨2, 5,
    (.cons (.asg (.tup (.cons (.name 3) (.cons (.name 4) .nil))) (.var 0))
    (.cons (.asg (.name 2) (.bin .add (.cst (.int (2))) (.bin .fdiv (.var 4) (.cst (.int (2))))))
    (.cons (.asg (.name 3) (.ifx (.cmp .eq (.var 1) (.cst (.int (1)))) (.bin .add (.var 3) (.bin .shr (.bin .sub (.cst (.int (65536))) (.var 3)) (.var 2))) (.bin .sub (.var 3) (.bin .shr (.var 3) (.var 2)))))
    (.cons (.ret (.tup (.cons (.prim .min2 (.cons (.cst (.int (65280))) (.cons (.prim .max2 (.cons (.cst (.int (256))) (.cons (.var 3) .nil))) .nil))) (.cons (.prim .min2 (.cons (.cst (.int (6))) (.cons (.bin .add (.var 4) (.cst (.int (1)))) .nil))) .nil))))
    .nil))))⟩
def f_is_chance : Def := ⟨1, 1,
    (.cons (.ret (.call 3 (.cons (.var 0) .nil)))
    .nil)⟩
def f_learned : Def := ⟨2, 2,
    (.cons (.ifs (.un .not (.call 3 (.cons (.var 0) .nil))) (.cons (.rais 3)
    .nil) .nil)
    (.cons (.expr (.call 2 (.cons (.var 1) (.cons (.cst (.int (0))) (.cons (.cst (.int (1))) .nil)))))
    (.cons (.ret (.call 4 (.cons (.var 0) (.cons (.var 1) .nil))))
    .nil)))⟩
def f__law_cup : Def := ⟨1, 2,
    (.cons (.asg (.name 1) (.prim .abs (.cons (.idx (.bin .add (.prim .list (.cons (.var 0) .nil)) (.lst (.cons (.cst (.int (0))) .nil))) (.cst (.int (0)))) .nil)))
    (.cons (.ret (.lst (.cons (.ifx (.cmp .ge (.var 1) (.bin .pow (.cst (.int (10))) (.cst (.int (18))))) (.bin .fdiv (.var 1) (.cst (.int (137)))) (.cst (.int (0)))) (.cons (.bin .add (.bin .mod (.prim .int1 (.cons (.bin .add (.bin .mul (.var 1) (.cst (.int (367)))) (.cst (.int (2803)))) .nil)) (.cst (.int (2077502993)))) (.cst (.int (239)))) .nil))))
    .nil))⟩
def f__law_roll : Def := ⟨2, 4,
    (.cons (.ifs (.cmp .gt (.idx (.var 0) (.cst (.int (0)))) (.cst (.int (0)))) (.cons (.asg (.name 3) (.bin .mod (.prim .int1 (.cons (.idx (.var 0) (.cst (.int (0)))) .nil)) (.var 1)))
    (.cons (.asg (.sub (.var 0) (.cst (.int (0)))) (.bin .fdiv (.idx (.var 0) (.cst (.int (0)))) (.var 1)))
    (.cons (.ret (.var 3))
    .nil))) .nil)
    (.cons (.asg (.sub (.var 0) (.cst (.int (1)))) (.bin .mod (.prim .int1 (.cons (.bin .add (.bin .mul (.idx (.var 0) (.cst (.int (1)))) (.cst (.int (31183)))) (.cst (.int (8147)))) .nil)) (.cst (.int (2147483543)))))
    (.cons (.asg (.name 2) (.bin .mod (.prim .int1 (.cons (.bin .mul (.idx (.var 0) (.cst (.int (1)))) (.bin .add (.idx (.var 0) (.cst (.int (1)))) (.cst (.int (311))))) .nil)) (.cst (.int (2147483587)))))
    (.cons (.ret (.bin .mod (.prim .int1 (.cons (.bin .fdiv (.var 2) (.cst (.int (911)))) .nil)) (.var 1)))
    .nil))))⟩
def f__law_some : Def := ⟨2, 2,
    (.cons (.ret (.idx (.var 1) (.call 8 (.cons (.var 0) (.cons (.prim .len (.cons (.var 1) .nil)) .nil)))))
    .nil)⟩
def f__law_learned : Def := ⟨2, 5,
    (.cons (.asg (.tup (.cons (.name 3) (.cons (.name 4) .nil))) (.var 0))
    (.cons (.asg (.name 2) (.bin .mul (.cst (.int (4))) (.idx (.lst (.cons (.cst (.int (1))) (.cons (.cst (.int (1))) (.cons (.cst (.int (2))) (.cons (.cst (.int (2))) (.cons (.cst (.int (4))) (.cons (.cst (.int (4))) (.cons (.cst (.int (8))) .nil)))))))) (.var 4))))
    (.cons (.asg (.name 3) (.ifx (.cmp .eq (.var 1) (.cst (.int (1)))) (.bin .add (.var 3) (.bin .fdiv (.bin .sub (.cst (.int (65536))) (.var 3)) (.var 2))) (.bin .sub (.var 3) (.bin .fdiv (.var 3) (.var 2)))))
    (.cons (.ret (.tup (.cons (.prim .max2 (.cons (.cst (.int (256))) (.cons (.prim .min2 (.cons (.cst (.int (65280))) (.cons (.var 3) .nil))) .nil))) (.cons (.prim .min2 (.cons (.cst (.int (6))) (.cons (.bin .add (.var 4) (.cst (.int (1)))) .nil))) .nil))))
    .nil))))⟩
def f__law_same : Def := ⟨2, 4,
    (.cons (.ifs (.or (.prim (.isinst ["bool"]) (.cons (.var 0) .nil)) (.prim (.isinst ["bool"]) (.cons (.var 1) .nil))) (.cons (.ret (.and (.prim (.isinst ["bool"]) (.cons (.var 0) .nil)) (.and (.prim (.isinst ["bool"]) (.cons (.var 1) .nil)) (.cmp .eq (.var 0) (.var 1)))))
    .nil) .nil)
    (.cons (.ifs (.and (.prim (.isinst ["tuple"]) (.cons (.var 0) .nil)) (.prim (.isinst ["tuple"]) (.cons (.var 1) .nil))) (.cons (.ret (.and (.cmp .eq (.prim .len (.cons (.var 0) .nil)) (.prim .len (.cons (.var 1) .nil))) (.cmp .eq (.comp [2, 3] .zip (.cons (.var 0) (.cons (.var 1) .nil)) (.tup (.cons (.name 2) (.cons (.name 3) .nil))) (.cons (.un .not (.call 11 (.cons (.var 2) (.cons (.var 3) .nil)))) .nil) (.cst (.int (1)))) (.lst .nil))))
    .nil) .nil)
    (.cons (.ret (.and (.un .not (.prim (.isinst ["tuple"]) (.cons (.var 0) .nil))) (.and (.un .not (.prim (.isinst ["tuple"]) (.cons (.var 1) .nil))) (.cmp .eq (.var 0) (.var 1)))))
    .nil)))⟩
def f_law : Def := ⟨1, 15,
    (.cons (.asg (.name 1) (.call 7 (.cons (.var 0) .nil)))
    (.cons (.forr .rng (.cons (.cst (.int (8))) .nil) (.name 2) (.cons (.asg (.name 8) (.call 9 (.cons (.var 1) (.cons (.lst (.cons (.cst (.int (256))) (.cons (.cst (.int (257))) (.cons (.cst (.int (263))) (.cons (.cst (.int (264))) (.cons (.cst (.int (32768))) (.cons (.cst (.int (65272))) (.cons (.cst (.int (65273))) (.cons (.cst (.int (65279))) (.cons (.cst (.int (65280))) (.cons (.bin .add (.cst (.int (256))) (.call 8 (.cons (.var 1) (.cons (.cst (.int (65025))) .nil)))) .nil))))))))))) .nil))))
    (.cons (.asg (.name 3) (.tup (.cons (.var 8) (.cons (.call 8 (.cons (.var 1) (.cons (.cst (.int (7))) .nil))) .nil))))
    (.cons (.forr .seq (.cons (.tup (.cons (.cst (.int (0))) (.cons (.cst (.int (1))) .nil))) .nil) (.name 9) (.cons (.asg (.name 13) (.call 6 (.cons (.var 3) (.cons (.var 9) .nil))))
    (.cons (.ifs (.or (.un .not (.call 11 (.cons (.var 13) (.cons (.call 10 (.cons (.var 3) (.cons (.var 9) .nil))) .nil)))) (.cmp .isnot (.call 5 (.cons (.var 13) .nil)) (.cst (.bl true)))) (.cons (.ret (.cst (.bl false)))
    .nil) .nil)
    .nil)))
    .nil))))
    (.cons (.asg (.name 3) (.tup (.cons (.cst (.int (32768))) (.cons (.cst (.int (0))) .nil))))
    (.cons (.asg (.name 4) (.call 9 (.cons (.var 1) (.cons (.lst (.cons (.cst (.int (2))) (.cons (.cst (.int (5))) (.cons (.cst (.int (30))) .nil)))) .nil))))
    (.cons (.forr .rng (.cons (.cst (.int (30))) .nil) (.name 2) (.cons (.asg (.name 9) (.ifx (.cmp .gt (.call 8 (.cons (.var 1) (.cons (.var 4) .nil))) (.cst (.int (0)))) (.cst (.int (1))) (.cst (.int (0)))))
    (.cons (.asg (.name 10) (.call 10 (.cons (.var 3) (.cons (.var 9) .nil))))
    (.cons (.ifs (.cmp .ne (.call 6 (.cons (.var 3) (.cons (.var 9) .nil))) (.var 10)) (.cons (.ret (.cst (.bl false)))
    .nil) .nil)
    (.cons (.asg (.name 3) (.var 10))
    .nil)))))
    (.cons (.asg (.name 5) (.lst (.cons (.tup (.cons (.tup (.cons (.cst (.int (32768))) (.cons (.cst (.int (0))) .nil))) (.cons (.cst (.int (1))) (.cons (.tup (.cons (.cst (.int (40960))) (.cons (.cst (.int (1))) .nil))) .nil)))) (.cons (.tup (.cons (.tup (.cons (.cst (.int (32768))) (.cons (.cst (.int (0))) .nil))) (.cons (.cst (.int (0))) (.cons (.tup (.cons (.cst (.int (24576))) (.cons (.cst (.int (1))) .nil))) .nil)))) (.cons (.tup (.cons (.tup (.cons (.cst (.int (40960))) (.cons (.cst (.int (1))) .nil))) (.cons (.cst (.int (1))) (.cons (.tup (.cons (.cst (.int (47104))) (.cons (.cst (.int (2))) .nil))) .nil)))) (.cons (.tup (.cons (.tup (.cons (.cst (.int (47104))) (.cons (.cst (.int (2))) .nil))) (.cons (.cst (.int (1))) (.cons (.tup (.cons (.cst (.int (49408))) (.cons (.cst (.int (3))) .nil))) .nil)))) .nil))))))
    (.cons (.asg (.name 5) (.bin .add (.var 5) (.lst (.cons (.tup (.cons (.tup (.cons (.cst (.int (49408))) (.cons (.cst (.int (3))) .nil))) (.cons (.cst (.int (0))) (.cons (.tup (.cons (.cst (.int (43232))) (.cons (.cst (.int (4))) .nil))) .nil)))) (.cons (.tup (.cons (.tup (.cons (.cst (.int (43232))) (.cons (.cst (.int (4))) .nil))) (.cons (.cst (.int (0))) (.cons (.tup (.cons (.cst (.int (40530))) (.cons (.cst (.int (5))) .nil))) .nil)))) (.cons (.tup (.cons (.tup (.cons (.cst (.int (40530))) (.cons (.cst (.int (5))) .nil))) (.cons (.cst (.int (1))) (.cons (.tup (.cons (.cst (.int (42092))) (.cons (.cst (.int (6))) .nil))) .nil)))) .nil))))))
    (.cons (.asg (.name 5) (.bin .add (.var 5) (.lst (.cons (.tup (.cons (.tup (.cons (.cst (.int (42092))) (.cons (.cst (.int (6))) .nil))) (.cons (.cst (.int (1))) (.cons (.tup (.cons (.cst (.int (42824))) (.cons (.cst (.int (6))) .nil))) .nil)))) (.cons (.tup (.cons (.tup (.cons (.cst (.int (65280))) (.cons (.cst (.int (6))) .nil))) (.cons (.cst (.int (1))) (.cons (.tup (.cons (.cst (.int (65280))) (.cons (.cst (.int (6))) .nil))) .nil)))) (.cons (.tup (.cons (.tup (.cons (.cst (.int (65279))) (.cons (.cst (.int (5))) .nil))) (.cons (.cst (.int (1))) (.cons (.tup (.cons (.cst (.int (65280))) (.cons (.cst (.int (6))) .nil))) .nil)))) .nil))))))
    (.cons (.asg (.name 5) (.bin .add (.var 5) (.lst (.cons (.tup (.cons (.tup (.cons (.cst (.int (256))) (.cons (.cst (.int (6))) .nil))) (.cons (.cst (.int (0))) (.cons (.tup (.cons (.cst (.int (256))) (.cons (.cst (.int (6))) .nil))) .nil)))) (.cons (.tup (.cons (.tup (.cons (.cst (.int (257))) (.cons (.cst (.int (6))) .nil))) (.cons (.cst (.int (0))) (.cons (.tup (.cons (.cst (.int (256))) (.cons (.cst (.int (6))) .nil))) .nil)))) (.cons (.tup (.cons (.tup (.cons (.cst (.int (264))) (.cons (.cst (.int (6))) .nil))) (.cons (.cst (.int (0))) (.cons (.tup (.cons (.cst (.int (256))) (.cons (.cst (.int (6))) .nil))) .nil)))) (.cons (.tup (.cons (.tup (.cons (.cst (.int (65280))) (.cons (.cst (.int (0))) .nil))) (.cons (.cst (.int (0))) (.cons (.tup (.cons (.cst (.int (48960))) (.cons (.cst (.int (1))) .nil))) .nil)))) .nil)))))))
    (.cons (.asg (.name 5) (.bin .add (.var 5) (.lst (.cons (.tup (.cons (.tup (.cons (.cst (.int (256))) (.cons (.cst (.int (0))) .nil))) (.cons (.cst (.int (1))) (.cons (.tup (.cons (.cst (.int (16576))) (.cons (.cst (.int (1))) .nil))) .nil)))) (.cons (.tup (.cons (.tup (.cons (.cst (.int (256))) (.cons (.cst (.int (6))) .nil))) (.cons (.cst (.int (1))) (.cons (.tup (.cons (.cst (.int (2296))) (.cons (.cst (.int (6))) .nil))) .nil)))) (.cons (.tup (.cons (.tup (.cons (.cst (.int (65280))) (.cons (.cst (.int (6))) .nil))) (.cons (.cst (.int (0))) (.cons (.tup (.cons (.cst (.int (63240))) (.cons (.cst (.int (6))) .nil))) .nil)))) .nil))))))
    (.cons (.forr .seq (.cons (.var 5) .nil) (.tup (.cons (.name 8) (.cons (.name 9) (.cons (.name 10) .nil)))) (.cons (.ifs (.cmp .ne (.call 6 (.cons (.var 8) (.cons (.var 9) .nil))) (.var 10)) (.cons (.ret (.cst (.bl false)))
    .nil) .nil)
    .nil))
    (.cons (.asg (.tup (.cons (.name 11) (.cons (.name 12) .nil))) (.tup (.cons (.tup (.cons (.cst (.int (32768))) (.cons (.cst (.int (0))) .nil))) (.cons (.tup (.cons (.cst (.int (32768))) (.cons (.cst (.int (0))) .nil))) .nil))))
    (.cons (.forr .rng (.cons (.cst (.int (260))) .nil) (.name 2) (.cons (.asg (.tup (.cons (.name 11) (.cons (.name 12) .nil))) (.tup (.cons (.call 6 (.cons (.var 11) (.cons (.cst (.int (1))) .nil))) (.cons (.call 6 (.cons (.var 12) (.cons (.cst (.int (0))) .nil))) .nil))))
    .nil))
    (.cons (.ifs (.or (.cmp .ne (.var 11) (.tup (.cons (.cst (.int (65280))) (.cons (.cst (.int (6))) .nil)))) (.cmp .ne (.var 12) (.tup (.cons (.cst (.int (256))) (.cons (.cst (.int (6))) .nil))))) (.cons (.ret (.cst (.bl false)))
    .nil) .nil)
    (.cons (.asg (.name 6) (.lst (.cons (.cst .non) (.cons (.tup .nil) (.cons (.tup (.cons (.cst (.int (32768))) .nil)) (.cons (.tup (.cons (.cst (.int (32768))) (.cons (.cst (.int (0))) (.cons (.cst (.int (0))) .nil)))) (.cons (.lst (.cons (.cst (.int (32768))) (.cons (.cst (.int (0))) .nil))) (.cons (.tup (.cons (.cst (.int (255))) (.cons (.cst (.int (0))) .nil))) (.cons (.tup (.cons (.cst (.int (65281))) (.cons (.cst (.int (0))) .nil))) (.cons (.tup (.cons (.cst (.int (32768))) (.cons (.un .neg (.cst (.int (1)))) .nil))) (.cons (.tup (.cons (.cst (.int (32768))) (.cons (.cst (.int (7))) .nil))) .nil)))))))))))
    (.cons (.asg (.name 6) (.bin .add (.var 6) (.lst (.cons (.tup (.cons (.cst (.bl true)) (.cons (.cst (.int (0))) .nil))) (.cons (.tup (.cons (.cst (.int (32768))) (.cons (.cst (.bl false)) .nil))) (.cons (.tup (.cons (.cst (.str "1")) (.cons (.cst (.int (0))) .nil))) .nil))))))
    (.cons (.ifs (.or (.cmp .ne (.comp [14] .seq (.cons (.var 6) .nil) (.name 14) (.cons (.cmp .isnot (.call 5 (.cons (.var 14) .nil)) (.cst (.bl false))) .nil) (.var 14)) (.lst .nil)) (.cmp .isnot (.call 5 (.cons (.tup (.cons (.cst (.int (256))) (.cons (.cst (.int (6))) .nil))) .nil)) (.cst (.bl true)))) (.cons (.ret (.cst (.bl false)))
    .nil) .nil)
    (.cons (.ifs (.cmp .isnot (.call 5 (.cons (.tup (.cons (.cst (.int (65280))) (.cons (.cst (.int (0))) .nil))) .nil)) (.cst (.bl true))) (.cons (.ret (.cst (.bl false)))
    .nil) .nil)
    (.cons (.asg (.name 7) (.comp [14] .seq (.cons (.var 6) .nil) (.name 14) .nil (.lam 6 [([3], (.str "chance")), ([1], (.str "number")), ([2], (.str "octets")), ([4], (.str "row")), ([5], (.str "telling")), ([0, 1, 2, 3, 4, 5], (.str "other"))] (.str "") (.call 6 (.cons (.var 14) (.cons (.cst .non) .nil))))))
    (.cons (.asg (.name 7) (.bin .add (.var 7) (.comp [14] .seq (.cons (.tup (.cons (.cst .non) (.cons (.un .neg (.cst (.int (1)))) (.cons (.cst (.int (2))) (.cons (.cst (.bl true)) (.cons (.tup (.cons (.cst (.int (1))) .nil)) .nil)))))) .nil) (.name 14) .nil (.lam 6 [([3], (.str "chance")), ([1], (.str "number")), ([2], (.str "octets")), ([4], (.str "row")), ([5], (.str "telling")), ([0, 1, 2, 3, 4, 5], (.str "other"))] (.str "") (.call 6 (.cons (.tup (.cons (.cst (.int (256))) (.cons (.cst (.int (0))) .nil))) (.cons (.var 14) .nil)))))))
    (.cons (.ret (.cmp .eq (.var 7) (.bin .add (.bin .mul (.lst (.cons (.cst (.str "chance")) .nil)) (.cst (.int (12)))) (.bin .mul (.lst (.cons (.cst (.str "number")) .nil)) (.cst (.int (5)))))))
    .nil)))))))))))))))))))))⟩
def P : List Def := [f_is_whole, f_is_tuple_of, f_need_number, f_fits_chance, f_learned_in, f_is_chance, f_learned, f__law_cup, f__law_roll, f__law_some, f__law_learned, f__law_same, f_law]
end Law
namespace Law
open PySem DL

theorem wfP : (P.all fun f => wfSs f.body) = true := by decide +kernel
theorem is_whole_ok (k : Nat) (v lo hi : Int) (M : Mem) (h1 : lo ≤ v) (h2 : v ≤ hi) : callD P (k + 1) 0 [.int v, .int lo, .int hi] M = .ok (.bl true) M := by
  rw [call_eq (f := f_is_whole) rfl rfl]
  simp [f_is_whole, evSs, evS, evE, evEs, r_ok, f_ok, q_rt, F.toR, i_int, i_intB, truth, u_not, o_some, c_le, h1, h2]
theorem fits_ok (k : Nat) (a b : Int) (M : Mem) (h1 : 256 ≤ a) (h2 : a ≤ 65280) (h3 : 0 ≤ b) (h4 : b ≤ 6) : callD P (k + 2) 3 [.tup [.int a, .int b]] M = .ok (.bl true) M := by
  have e1 : callD P (k + 1) 1 [.tup [.int a, .int b], .int 2, .int 2] M = .ok (.bl true) M := by
    rw [call_eq (f := f_is_tuple_of) rfl rfl]
    simp [f_is_tuple_of, evSs, evS, evE, evEs, r_ok, f_ok, q_rt, F.toR, i_tup, truth, p_lenT, c_le, o_some]
  have e2 := is_whole_ok k a 256 65280 M h1 h2
  have e3 := is_whole_ok k b 0 6 M h3 h4
  rw [call_eq (f := f_fits_chance) rfl rfl]
  simp [f_fits_chance, evSs, evS, evE, evEs, r_ok, f_ok, q_rt, F.toR, x_tup, atI, ixN, o_some, truth, e1, e2, e3]
theorem is_chance_ok (k : Nat) (a b : Int) (M : Mem) (h1 : 256 ≤ a) (h2 : a ≤ 65280) (h3 : 0 ≤ b) (h4 : b ≤ 6) : callD P (k + 3) 5 [.tup [.int a, .int b]] M = .ok (.bl true) M := by
  rw [call_eq (f := f_is_chance) rfl rfl]
  simp [f_is_chance, evSs, evS, evE, evEs, r_ok, f_ok, q_rt, F.toR, fits_ok k a b M h1 h2 h3 h4]
theorem need_ok (k : Nat) (b : Int) (M : Mem) (h1 : 0 ≤ b) (h2 : b ≤ 1) : callD P (k + 2) 2 [.int b, .int 0, .int 1] M = .ok .non M := by
  rw [call_eq (f := f_need_number) rfl rfl]
  simp [f_need_number, evSs, evS, evE, evEs, evT, r_ok, f_ok, q_nx, F.toR, truth, o_some, u_not, is_whole_ok k b 0 1 M h1 h2]
/-- the next chance -/
def nxt (own : Int) (p : Int) (bit : Int) : Int := max 256 (min 65280 (if bit = 1 then own + (65536 - own) / p else own - own / p))
def part (c : Int) : Int := if c ≤ 1 then 4 else if c ≤ 3 then 8 else if c ≤ 5 then 16 else 32
theorem eq_one (M : Mem) (b : Int) : cmpop M .eq (.int b) (.int 1) = some (b == 1) := by
  simp [cmpop, deq, toP, toP0, PyData.eqv]
theorem shr_part (i c : Int) (h3 : 0 ≤ c) (h4 : c ≤ 6) : bini .shr i (2 + c / 2) = some (.int (i / part c)) := by
  rw [n_shr (by omega)]
  have : c = 0 ∨ c = 1 ∨ c = 2 ∨ c = 3 ∨ c = 4 ∨ c = 5 ∨ c = 6 := by omega
  rcases this with rfl | rfl | rfl | rfl | rfl | rfl | rfl <;> rfl
theorem learned_in_ok (k : Nat) (a c b : Int) (M : Mem) (h3 : 0 ≤ c) (h4 : c ≤ 6) : callD P (k + 1) 4 [.tup [.int a, .int c], .int b] M = .ok (.tup [.int (nxt a (part c) b), .int (min 6 (c + 1))]) M := by
  rw [call_eq (f := f_learned_in) rfl rfl]
  have e1 : bini .fdiv c 2 = some (.int (c / 2)) := n_fdiv (by decide) (by decide)
  have e2 : ∀ i : Int, (if (if i > 256 then i else (256 : Int)) < 65280 then (if i > 256 then i else (256 : Int)) else 65280) = max 256 (min 65280 i) := fun i => by split <;> split <;> omega
  have e3 : (if c + 1 < 6 then c + 1 else (6 : Int)) = min 6 (c + 1) := by split <;> omega
  by_cases hb : b = 1
  · simp [f_learned_in, evSs, evS, evE, evEs, evG, evGs, ITgs.len, r_ok, f_ok, q_rt, q_nx, F.toR, items, truth, b_int, n_add, n_sub, o_some, e1, shr_part _ c h3 h4, eq_one, hb, p_max', p_min', e2, e3, nxt]
  · have hb' : (b == 1) = false := by simpa using hb
    simp [f_learned_in, evSs, evS, evE, evEs, evG, evGs, ITgs.len, r_ok, f_ok, q_rt, q_nx, F.toR, items, truth, b_int, n_add, n_sub, o_some, e1, shr_part _ c h3 h4, eq_one, hb, hb', p_max', p_min', e2, e3, nxt]
theorem learned_ok (k : Nat) (a c b : Int) (M : Mem) (h1 : 256 ≤ a) (h2 : a ≤ 65280) (h3 : 0 ≤ c) (h4 : c ≤ 6) (b1 : 0 ≤ b) (b2 : b ≤ 1) : callD P (k + 3) 6 [.tup [.int a, .int c], .int b] M = .ok (.tup [.int (nxt a (part c) b), .int (min 6 (c + 1))]) M := by
  rw [call_eq (f := f_learned) rfl rfl]
  simp [f_learned, evSs, evS, evE, evEs, evT, r_ok, f_ok, q_rt, q_nx, F.toR, truth, o_some, u_not, fits_ok k a c M h1 h2 h3 h4, need_ok k b M b1 b2, learned_in_ok (k + 1) a c b M h3 h4]
theorem x_new (M : Mem) (xs : List D) (i : Int) : idx (M ++ [.lst xs]) (.loc M.length) (.int i) = atI xs i := by
  simp [idx, items, lstOf]
theorem law_learned_ok (k : Nat) (a c b : Int) (M : Mem) (h3 : 0 ≤ c) (h4 : c ≤ 6) : callD P (k + 1) 10 [.tup [.int a, .int c], .int b] M = .ok (.tup [.int (nxt a (part c) b), .int (min 6 (c + 1))]) (M ++ [.lst [.int 1, .int 1, .int 2, .int 2, .int 4, .int 4, .int 8]]) := by
  rw [call_eq (f := f__law_learned) rfl rfl]
  have e0 : ∃ q : Int, atI [.int 1, .int 1, .int 2, .int 2, .int 4, .int 4, .int 8] c = some (.int q) ∧ 4 * q = part c := by
    have : c = 0 ∨ c = 1 ∨ c = 2 ∨ c = 3 ∨ c = 4 ∨ c = 5 ∨ c = 6 := by omega
    rcases this with rfl | rfl | rfl | rfl | rfl | rfl | rfl
    · exact ⟨1, rfl, rfl⟩
    · exact ⟨1, rfl, rfl⟩
    · exact ⟨2, rfl, rfl⟩
    · exact ⟨2, rfl, rfl⟩
    · exact ⟨4, rfl, rfl⟩
    · exact ⟨4, rfl, rfl⟩
    · exact ⟨8, rfl, rfl⟩
  obtain ⟨q, e0, e1⟩ := e0
  have hp : 0 < part c ∧ part c ≤ 32 := by unfold part; split <;> (try split) <;> (try split) <;> omega
  have sp : smallI (part c) = true := by unfold smallI; simp only [Bool.and_eq_true, decide_eq_true_eq]; omega
  have e2 : ∀ i : Int, (if (if i < 65280 then i else (65280 : Int)) > 256 then (if i < 65280 then i else (65280 : Int)) else 256) = max 256 (min 65280 i) := fun i => by split <;> split <;> omega
  have e3 : (if c + 1 < 6 then c + 1 else (6 : Int)) = min 6 (c + 1) := by split <;> omega
  have e4 : bini .mul 4 q = some (.int (part c)) := by rw [n_mul (.inl (by decide)), e1]
  have e5 : ∀ i : Int, bini .fdiv i (part c) = some (.int (i / part c)) := fun i => n_fdiv hp.1 sp
  by_cases hb : b = 1
  · simp [f__law_learned, evSs, evS, evE, evEs, evG, evGs, ITgs.len, r_ok, f_ok, q_rt, q_nx, F.toR, items, truth, b_int, n_add, n_sub, o_some, x_new, e0, e4, e5, eq_one, hb, p_max', p_min', e2, e3, nxt]
  · have hb' : (b == 1) = false := by simpa using hb
    simp [f__law_learned, evSs, evS, evE, evEs, evG, evGs, ITgs.len, r_ok, f_ok, q_rt, q_nx, F.toR, items, truth, b_int, n_add, n_sub, o_some, x_new, e0, e4, e5, eq_one, hb, hb', p_max', p_min', e2, e3, nxt]
theorem same_int (k : Nat) (a : Int) (M : Mem) : callD P (k + 1) 11 [.int a, .int a] M = .ok (.bl true) M := by
  rw [call_eq (f := f__law_same) rfl rfl]
  simp [f__law_same, evSs, evS, evE, evEs, evT, r_ok, f_ok, q_rt, q_nx, F.toR, i_intB, i_intT, truth, o_some, u_not, c_eq, d_int]
theorem same_tup (k : Nat) (a b : Int) (M : Mem) : ∃ X, callD P (k + 2) 11 [.tup [.int a, .int b], .tup [.int a, .int b]] M = .ok (.bl true) (M ++ X) := by
  refine call_any wfP rfl rfl (M1 := [.lst [], .lst []]) ?_
  rw [call_eq (f := f__law_same) rfl rfl]
  have st_ok : ∀ (x : Int) (M : Mem), fStep [2, 3] (fun d ρ M => evG (callD P (k + 1)) (.tup (.cons (.name 2) (.cons (.name 3) .nil))) d ρ M) (evC (callD P (k + 1)) (.cons (.un .not (.call 11 (.cons (.var 2) (.cons (.var 3) .nil)))) .nil)) (evE (callD P (k + 1)) (.cst (.int 1))) [some (.tup [.int a, .int b]), some (.tup [.int a, .int b]), none, none] (.tup [.int x, .int x]) M = .ok none M := fun x M => by
    simp [fStep, wipe, evG, evGs, ITgs.len, evC, evE, evEs, r_ok, q_nx, items, same_int, u_not, o_some, truth]
  have hc : ∀ M, evE (callD P (k + 1)) (.comp [2, 3] .zip (.cons (.var 0) (.cons (.var 1) .nil)) (.tup (.cons (.name 2) (.cons (.name 3) .nil))) (.cons (.un .not (.call 11 (.cons (.var 2) (.cons (.var 3) .nil)))) .nil) (.cst (.int 1))) [some (.tup [.int a, .int b]), some (.tup [.int a, .int b]), none, none] M = .ok (.loc M.length) (M ++ [.lst []]) := fun M => by
    show cloop (.zip (.tup [.int a, .int b]) (.tup [.int a, .int b])) M.length (fStep [2, 3] (fun d ρ M => evG (callD P (k + 1)) (.tup (.cons (.name 2) (.cons (.name 3) .nil))) d ρ M) (evC (callD P (k + 1)) (.cons (.un .not (.call 11 (.cons (.var 2) (.cons (.var 3) .nil)))) .nil)) (evE (callD P (k + 1)) (.cst (.int 1))) [some (.tup [.int a, .int b]), some (.tup [.int a, .int b]), none, none]) 3 0 (M ++ [.lst []]) = _
    exact (cloop_skip (by rfl) (st_ok a _)).trans ((cloop_skip (by rfl) (st_ok b _)).trans (cloop_stop (by rfl)))
  have hd : deq [.lst [], .lst []] (.loc 0) (.loc 1) = some true := rfl
  show (evSs (callD P (k + 1)) f__law_same.body [some (.tup [.int a, .int b]), some (.tup [.int a, .int b]), none, none] []).toR = _
  unfold f__law_same
  rw [ss_nx (ρ' := [some (.tup [.int a, .int b]), some (.tup [.int a, .int b]), none, none]) (M' := []) (by simp [evS, evT, evE, evEs, evSs, r_ok, f_ok, i_tupB, o_some, truth])]
  rw [ss_rt (d := .bl true) (ρ' := [some (.tup [.int a, .int b]), some (.tup [.int a, .int b]), none, none]) (M' := [.lst [], .lst []]) (by simp [evS, evT, evE, evEs, evSs, r_ok, f_ok, q_rt, i_tupB, o_some, truth, i_tup, p_lenT, ↓hc, c_eq, d_int, hd])]
  rfl
theorem nxt_b (a p b : Int) : 256 ≤ nxt a p b ∧ nxt a p b ≤ 65280 := by unfold nxt; omega
/-! ### the law -/
abbrev C := callD P 11
def drp : Nat → ISs → ISs
  | 0, b => b
  | n + 1, .cons _ r => drp n r
  | _ + 1, .nil => .nil
def stm : Nat → ISs → IS
  | 0, .cons s _ => s
  | n + 1, .cons _ r => stm n r
  | _, .nil => .pass
def e_own : IE := match stm 1 f_law.body with
  | .forr _ _ _ (.cons (.asg _ e) _) => e
  | _ => .cst .non
def b_in : ISs := match stm 1 f_law.body with
  | .forr _ _ _ b => match stm 2 b with
    | .forr _ _ _ b => b
    | _ => .nil
  | _ => .nil
def b_one : ISs := match stm 1 f_law.body with
  | .forr _ _ _ b => b
  | _ => .nil
def b_two : ISs := match stm 4 f_law.body with
  | .forr _ _ _ b => b
  | _ => .nil
theorem own_ok {ρ : DL.Env} {M : Mem} (h : CupAt 3 M) (hr : ρ[1]? = some (some (.loc 3))) : ∃ v M', evE C e_own ρ M = .ok (.int v) M' ∧ 256 ≤ v ∧ v ≤ 65280 ∧ CupAt 3 M' := by
  obtain ⟨r, M1, e1, r0, r1, h1, _, _⟩ := roll_ok (P := P) (g := 8) (k := 10) rfl h (many := 65025) (by decide) (by decide)
  have e1 : C 8 [.loc 3, .int 65025] M = .ok (.int r) M1 := e1
  have h3 : 3 < M1.length := by obtain ⟨a, b, q, _⟩ := h1; exact at_lt q
  obtain ⟨i, x, M2, e2, hx, h2, _, _⟩ := some_ok (P := P) (g := 9) (gr := 8) (k := 9) (c := 3) (M := M1 ++ [.lst [.int 256, .int 257, .int 263, .int 264, .int 32768, .int 65272, .int 65273, .int 65279, .int 65280, .int (256 + r)]]) (d := .loc M1.length)
    (ds := [.int 256, .int 257, .int 263, .int 264, .int 32768, .int 65272, .int 65273, .int 65279, .int 65280, .int (256 + r)]) rfl rfl (cup_apps _ h1) (by simp [items, lstOf]) (by simp) (by simp) (fun l e => by cases e; omega)
  have e2 : C 9 [.loc 3, .loc M1.length] (M1 ++ [.lst [.int 256, .int 257, .int 263, .int 264, .int 32768, .int 65272, .int 65273, .int 65279, .int 65280, .int (256 + r)]]) = .ok x M2 := e2
  have hv : ∃ v, x = .int v ∧ 256 ≤ v ∧ v ≤ 65280 := by
    have := List.mem_of_getElem? hx
    simp only [List.mem_cons, List.not_mem_nil, or_false] at this
    rcases this with h | h | h | h | h | h | h | h | h | h <;> exact ⟨_, h, by omega, by omega⟩
  obtain ⟨v, rfl, v1, v2⟩ := hv
  refine ⟨v, M2, ?_, v1, v2, h2⟩
  simp [e_own, stm, f_law, evE, evEs, hr, r_ok, e1, b_int, n_add, o_some, e2]
theorem in_ok (v c b : Int) (M : Mem) (s0 s2 s8 s9 s13 : Option D) (h : CupAt 3 M) (h1 : 256 ≤ v) (h2 : v ≤ 65280) (h3 : 0 ≤ c) (h4 : c ≤ 6) (b1 : 0 ≤ b) (b2 : b ≤ 1) :
    ∃ s M', (evG C (.name 9) (.int b) [s0, some (.loc 3), s2, some (.tup [.int v, .int c]), none, none, none, none, s8, s9, none, none, none, s13, none] M).seq (evSs C b_in) = .nx [s0, some (.loc 3), s2, some (.tup [.int v, .int c]), none, none, none, none, s8, some (.int b), none, none, none, s, none] M' ∧ CupAt 3 M' := by
  have l1 : C 6 [.tup [.int v, .int c], .int b] M = _ := learned_ok 8 v c b M h1 h2 h3 h4 b1 b2
  have l2 : ∀ M, C 10 [.tup [.int v, .int c], .int b] M = _ := fun M => law_learned_ok 10 v c b M h3 h4
  obtain ⟨n1, n2⟩ := nxt_b v (part c) b
  generalize nxt v (part c) b = w at l1 l2 n1 n2
  obtain ⟨X, l3⟩ := same_tup 9 w (min 6 (c + 1)) (M ++ [.lst [.int 1, .int 1, .int 2, .int 2, .int 4, .int 4, .int 8]])
  have l3 : C 11 [.tup [.int w, .int (min 6 (c + 1))], .tup [.int w, .int (min 6 (c + 1))]] (M ++ [.lst [.int 1, .int 1, .int 2, .int 2, .int 4, .int 4, .int 8]]) = _ := l3
  have l4 : ∀ M, C 5 [.tup [.int w, .int (min 6 (c + 1))]] M = .ok (.bl true) M := fun M => is_chance_ok 8 w _ M n1 n2 (by omega) (by omega)
  refine ⟨some (.tup [.int w, .int (min 6 (c + 1))]), M ++ [.lst [.int 1, .int 1, .int 2, .int 2, .int 4, .int 4, .int 8]] ++ X, ?_, cup_apps _ (cup_apps _ h)⟩
  show evSs C b_in [s0, some (.loc 3), s2, some (.tup [.int v, .int c]), none, none, none, none, s8, some (.int b), none, none, none, s13, none] M = _
  show evSs C (.cons _ (.cons _ .nil)) _ _ = _
  rw [ss_nx (ρ' := [s0, some (.loc 3), s2, some (.tup [.int v, .int c]), none, none, none, none, s8, some (.int b), none, none, none, some (.tup [.int w, .int (min 6 (c + 1))]), none]) (M' := M) (by simp [evS, evE, evEs, evG, r_ok, f_ok, l1])]
  rw [ss_nx (ρ' := [s0, some (.loc 3), s2, some (.tup [.int v, .int c]), none, none, none, none, s8, some (.int b), none, none, none, some (.tup [.int w, .int (min 6 (c + 1))]), none]) (M' := M ++ [.lst [.int 1, .int 1, .int 2, .int 2, .int 4, .int 4, .int 8]] ++ X) (by simp only [evS, evT, evE, evEs, evSs, r_ok, f_ok, l2, l3, l4, u_not, o_some, truth, cmpop, sameB, List.getElem?_cons_succ, List.getElem?_cons_zero, Bool.not_true, Bool.not_false, Option.map, beq_self_eq_true])]
  rfl
theorem one_ok (t : Int) (M : Mem) (s0 s2 s3 s8 s9 s13 : Option D) (h : CupAt 3 M) :
    ∃ u2 u3 u8 u9 u13 M', (evG C (.name 2) (.int t) [s0, some (.loc 3), s2, s3, none, none, none, none, s8, s9, none, none, none, s13, none] M).seq (evSs C b_one) = .nx [s0, some (.loc 3), u2, u3, none, none, none, none, u8, u9, none, none, none, u13, none] M' ∧ CupAt 3 M' := by
  obtain ⟨v, M1, e1, v1, v2, h1⟩ := own_ok (ρ := [s0, some (.loc 3), some (.int t), s3, none, none, none, none, s8, s9, none, none, none, s13, none]) h rfl
  obtain ⟨c, M2, e2, c1, c2, h2, _, _⟩ := roll_ok (P := P) (g := 8) (k := 10) rfl h1 (many := 7) (by decide) (by decide)
  have e2 : C 8 [.loc 3, .int 7] M1 = .ok (.int c) M2 := e2
  obtain ⟨x1, M3, e3, h3⟩ := in_ok v c 0 M2 s0 (some (.int t)) (some (.int v)) s9 s13 h2 v1 v2 c1 (by omega) (by decide) (by decide)
  obtain ⟨x2, M4, e4, h4⟩ := in_ok v c 1 M3 s0 (some (.int t)) (some (.int v)) (some (.int 0)) x1 h3 v1 v2 c1 (by omega) (by decide) (by decide)
  refine ⟨some (.int t), some (.tup [.int v, .int c]), some (.int v), some (.int 1), x2, M4, ?_, h4⟩
  show evSs C (.cons (.asg (.name 8) e_own) (.cons (.asg (.name 3) (.tup (.cons (.var 8) (.cons (.call 8 (.cons (.var 1) (.cons (.cst (.int (7))) .nil))) .nil)))) (.cons (.forr .seq (.cons (.tup (.cons (.cst (.int (0))) (.cons (.cst (.int (1))) .nil))) .nil) (.name 9) b_in) .nil))) [s0, some (.loc 3), some (.int t), s3, none, none, none, none, s8, s9, none, none, none, s13, none] M = _
  rw [ss_nx (ρ' := [s0, some (.loc 3), some (.int t), s3, none, none, none, none, some (.int v), s9, none, none, none, s13, none]) (M' := M1) (by simp only [evS, e1, f_ok, evG]; rfl)]
  rw [ss_nx (ρ' := [s0, some (.loc 3), some (.int t), some (.tup [.int v, .int c]), none, none, none, none, some (.int v), s9, none, none, none, s13, none]) (M' := M2) (by simp [evS, evE, evEs, r_ok, e2, f_ok, evG])]
  refine ss_nx (M' := M4) ?_
  show loop (.seq (.tup [.int 0, .int 1])) (fun d ρ M => (evG C (.name 9) d ρ M).seq (evSs C b_in)) 3 0 _ M2 = _
  exact (loop_nx (by rfl) e3).trans ((loop_nx (by rfl) e4).trans (loop_stop (by rfl)))
theorem two_ok (t w a c : Int) (M : Mem) (s0 s2 s8 s9 s10 s13 : Option D) (h : CupAt 3 M) (w1 : 0 < w) (w2 : w < 100) (h1 : 256 ≤ a) (h2 : a ≤ 65280) (h3 : 0 ≤ c) (h4 : c ≤ 6) :
    ∃ u9 u10 M' a' c', (evG C (.name 2) (.int t) [s0, some (.loc 3), s2, some (.tup [.int a, .int c]), some (.int w), none, none, none, s8, s9, s10, none, none, s13, none] M).seq (evSs C b_two) = .nx [s0, some (.loc 3), some (.int t), some (.tup [.int a', .int c']), some (.int w), none, none, none, s8, u9, u10, none, none, s13, none] M' ∧ CupAt 3 M' ∧
      256 ≤ a' ∧ a' ≤ 65280 ∧ 0 ≤ c' ∧ c' ≤ 6 := by
  obtain ⟨r, M1, e1, r1, r2, h5, _, _⟩ := roll_ok (P := P) (g := 8) (k := 10) rfl h (many := w) w1 (by omega)
  have e1 : C 8 [.loc 3, .int w] M = .ok (.int r) M1 := e1
  have hb : ∃ b : Int, 0 ≤ b ∧ b ≤ 1 ∧ evE C (.ifx (.cmp .gt (.call 8 (.cons (.var 1) (.cons (.var 4) .nil))) (.cst (.int (0)))) (.cst (.int (1))) (.cst (.int (0)))) [s0, some (.loc 3), some (.int t), some (.tup [.int a, .int c]), some (.int w), none, none, none, s8, s9, s10, none, none, s13, none] M = .ok (.int b) M1 := by
    by_cases hr : 0 < r
    · exact ⟨1, by decide, by decide, by simp [evE, evEs, r_ok, e1, c_gt, hr, o_some, truth]⟩
    · exact ⟨0, by decide, by decide, by simp [evE, evEs, r_ok, e1, c_gt, hr, o_some, truth]⟩
  obtain ⟨b, b1, b2, e2⟩ := hb
  have l1 : ∀ M, C 6 [.tup [.int a, .int c], .int b] M = _ := fun M => learned_ok 8 a c b M h1 h2 h3 h4 b1 b2
  have l2 : ∀ M, C 10 [.tup [.int a, .int c], .int b] M = _ := fun M => law_learned_ok 10 a c b M h3 h4
  obtain ⟨n1, n2⟩ := nxt_b a (part c) b
  generalize nxt a (part c) b = z at l1 l2 n1 n2
  refine ⟨some (.int b), some (.tup [.int z, .int (min 6 (c + 1))]), M1 ++ [.lst [.int 1, .int 1, .int 2, .int 2, .int 4, .int 4, .int 8]], z, min 6 (c + 1), ?_, cup_apps _ h5, n1, n2, by omega, by omega⟩
  show evSs C (.cons (.asg (.name 9) (.ifx (.cmp .gt (.call 8 (.cons (.var 1) (.cons (.var 4) .nil))) (.cst (.int (0)))) (.cst (.int (1))) (.cst (.int (0))))) (.cons _ (.cons _ (.cons _ .nil)))) [s0, some (.loc 3), some (.int t), some (.tup [.int a, .int c]), some (.int w), none, none, none, s8, s9, s10, none, none, s13, none] M = _
  rw [ss_nx (ρ' := [s0, some (.loc 3), some (.int t), some (.tup [.int a, .int c]), some (.int w), none, none, none, s8, some (.int b), s10, none, none, s13, none]) (M' := M1) (by simp only [evS, e2, f_ok, evG]; rfl)]
  rw [ss_nx (ρ' := [s0, some (.loc 3), some (.int t), some (.tup [.int a, .int c]), some (.int w), none, none, none, s8, some (.int b), some (.tup [.int z, .int (min 6 (c + 1))]), none, none, s13, none]) (M' := M1 ++ [.lst [.int 1, .int 1, .int 2, .int 2, .int 4, .int 4, .int 8]]) (by simp [evS, evE, evEs, r_ok, l2, f_ok, evG])]
  rw [ss_nx (ρ' := [s0, some (.loc 3), some (.int t), some (.tup [.int a, .int c]), some (.int w), none, none, none, s8, some (.int b), some (.tup [.int z, .int (min 6 (c + 1))]), none, none, s13, none]) (M' := M1 ++ [.lst [.int 1, .int 1, .int 2, .int 2, .int 4, .int 4, .int 8]]) (by simp [evS, evT, evE, evEs, evSs, r_ok, l1, f_ok, c_ne, d_ii, o_some, truth])]
  exact ss_nx (by simp [evS, evE, f_ok, evG])
theorem way_ok {ρ : DL.Env} {M : Mem} (h : CupAt 3 M) (hr : ρ[1]? = some (some (.loc 3))) : ∃ w M', evE C (.call 9 (.cons (.var 1) (.cons (.lst (.cons (.cst (.int (2))) (.cons (.cst (.int (5))) (.cons (.cst (.int (30))) .nil)))) .nil))) ρ M = .ok (.int w) M' ∧ 0 < w ∧ w < 100 ∧ CupAt 3 M' := by
  have h3 : 3 < M.length := by obtain ⟨a, b, q, _⟩ := h; exact at_lt q
  obtain ⟨i, x, M2, e2, hx, h2, _, _⟩ := some_ok (P := P) (g := 9) (gr := 8) (k := 9) (c := 3) (M := M ++ [.lst [.int 2, .int 5, .int 30]]) (d := .loc M.length) (ds := [.int 2, .int 5, .int 30]) rfl rfl (cup_apps _ h) (by simp [items, lstOf]) (by simp) (by simp) (fun l e => by cases e; omega)
  have e2 : C 9 [.loc 3, .loc M.length] (M ++ [.lst [.int 2, .int 5, .int 30]]) = .ok x M2 := e2
  have hv : ∃ v, x = .int v ∧ 0 < v ∧ v < 100 := by
    have := List.mem_of_getElem? hx
    simp only [List.mem_cons, List.not_mem_nil, or_false] at this
    rcases this with h | h | h <;> exact ⟨_, h, by omega, by omega⟩
  obtain ⟨v, rfl, v1, v2⟩ := hv
  exact ⟨v, M2, by simp [evE, evEs, hr, r_ok, e2], v1, v2, h2⟩
theorem rest_ok : isT (evSs (callD P 11) (drp 5 f_law.body) (List.replicate 15 none) []) = true := by decide +kernel
theorem plain (ns : List Int) (hl : ns.length ≤ 63) (hb : ∀ z ∈ ns, Builtin.Int.intBits z ≤ 1048576) : ∃ M', callD P 12 12 [.ro (ns.map .int)] [] = .ok (.bl true) M' := by
  rw [call_eq (k := 11) (f := f_law) rfl rfl]
  obtain ⟨M1, e1, h1⟩ := cup_ok (P := P) (g := 7) (k := 10) rfl hl
  have e1 : C 7 [.ro (ns.map .int)] [] = .ok (.loc 3) M1 := e1
  show ∃ M', (evSs C (.cons (.asg (.name 1) (.call 7 (.cons (.var 0) .nil))) (.cons (.forr .rng (.cons (.cst (.int (8))) .nil) (.name 2) b_one) (.cons (.asg (.name 3) (.tup (.cons (.cst (.int (32768))) (.cons (.cst (.int (0))) .nil)))) (.cons (.asg (.name 4) (.call 9 (.cons (.var 1) (.cons (.lst (.cons (.cst (.int (2))) (.cons (.cst (.int (5))) (.cons (.cst (.int (30))) .nil)))) .nil)))) (.cons (.forr .rng (.cons (.cst (.int (30))) .nil) (.name 2) b_two) (drp 5 f_law.body)))))) [some (.ro (ns.map .int)), none, none, none, none, none, none, none, none, none, none, none, none, none, none] []).toR = _
  rw [ss_nx (ρ' := [some (.ro (ns.map .int)), some (.loc 3), none, none, none, none, none, none, none, none, none, none, none, none, none]) (M' := M1) (by simp [evS, evE, evEs, r_ok, e1, f_ok, evG])]
  obtain ⟨ρ2, M2, e2, s0, s2, s3, s8, s9, s13, rfl, h2⟩ := loop_rng (lo := 0) (c := 1) (n := 8) (st := fun d ρ M => (evG C (.name 2) d ρ M).seq (evSs C b_one)) (fun _ ρ M => ∃ s0 s2 s3 s8 s9 s13 : Option D, ρ = [s0, some (.loc 3), s2, s3, none, none, none, none, s8, s9, none, none, none, s13, none] ∧ CupAt 3 M)
    (fun i ρ M hi ⟨s0, s2, s3, s8, s9, s13, hr, hc⟩ => by
      subst hr
      obtain ⟨u2, u3, u8, u9, u13, M', e, h⟩ := one_ok (0 + (i : Nat) * 1) M s0 s2 s3 s8 s9 s13 hc
      exact ⟨_, M', e, s0, u2, u3, u8, u9, u13, rfl, h⟩) 8 0 [some (.ro (ns.map .int)), some (.loc 3), none, none, none, none, none, none, none, none, none, none, none, none, none] M1 rfl ⟨_, _, _, _, _, _, rfl, h1⟩
  have e2 : evS C (.forr .rng (.cons (.cst (.int (8))) .nil) (.name 2) b_one) [some (.ro (ns.map .int)), some (.loc 3), none, none, none, none, none, none, none, none, none, none, none, none, none] M1 = .nx [s0, some (.loc 3), s2, s3, none, none, none, none, s8, s9, none, none, none, s13, none] M2 := e2
  rw [ss_nx e2]
  rw [ss_nx (ρ' := [s0, some (.loc 3), s2, some (.tup [.int 32768, .int 0]), none, none, none, none, s8, s9, none, none, none, s13, none]) (M' := M2) (by simp [evS, evE, evEs, r_ok, f_ok, evG])]
  obtain ⟨w, M3, e3, w1, w2, h3⟩ := way_ok (ρ := [s0, some (.loc 3), s2, some (.tup [.int 32768, .int 0]), none, none, none, none, s8, s9, none, none, none, s13, none]) h2 rfl
  rw [ss_nx (ρ' := [s0, some (.loc 3), s2, some (.tup [.int 32768, .int 0]), some (.int w), none, none, none, s8, s9, none, none, none, s13, none]) (M' := M3) (by simp only [evS, e3, f_ok, evG]; rfl)]
  obtain ⟨ρ4, M4, e4, s2', s9', s10', a, c, rfl, h4, _⟩ := loop_rng (lo := 0) (c := 1) (n := 30) (st := fun d ρ M => (evG C (.name 2) d ρ M).seq (evSs C b_two)) (fun _ ρ M => ∃ (s2 s9 s10 : Option D) (a c : Int), ρ = [s0, some (.loc 3), s2, some (.tup [.int a, .int c]), some (.int w), none, none, none, s8, s9, s10, none, none, s13, none] ∧ CupAt 3 M ∧ 256 ≤ a ∧ a ≤ 65280 ∧ 0 ≤ c ∧ c ≤ 6)
    (fun i ρ M hi ⟨s2, s9, s10, a, c, hr, hc, q1, q2, q3, q4⟩ => by
      subst hr
      obtain ⟨u9, u10, M', a', c', e, h, q1, q2, q3, q4⟩ := two_ok (0 + (i : Nat) * 1) w a c M s0 s2 s8 s9 s10 s13 hc w1 w2 q1 q2 q3 q4
      exact ⟨_, M', e, _, u9, u10, a', c', rfl, h, q1, q2, q3, q4⟩) 30 0 [s0, some (.loc 3), s2, some (.tup [.int 32768, .int 0]), some (.int w), none, none, none, s8, s9, none, none, none, s13, none] M3 rfl ⟨_, _, _, _, _, rfl, h3, by decide, by decide, by decide, by decide⟩
  have e4 : evS C (.forr .rng (.cons (.cst (.int (30))) .nil) (.name 2) b_two) [s0, some (.loc 3), s2, some (.tup [.int 32768, .int 0]), some (.int w), none, none, none, s8, s9, none, none, none, s13, none] M3 = .nx [s0, some (.loc 3), s2', some (.tup [.int a, .int c]), some (.int w), none, none, none, s8, s9', s10', none, none, s13, none] M4 := e4
  rw [ss_nx e4]
  obtain ⟨ρ5, M5, e5⟩ := ground_rt (P := P) (k := 11) (b := drp 5 f_law.body) (ρ0 := List.replicate 15 none) (ρ := [s0, some (.loc 3), s2', some (.tup [.int a, .int c]), some (.int w), none, none, none, s8, s9', s10', none, none, s13, none]) (M := M4) wfP (by decide +kernel) rest_ok rfl
  rw [e5]
  exact ⟨M5, rfl⟩

end Law
namespace Law
open PySem PySem.Spec PyProof.Rows L2 DL
theorem ok_is_whole : DefOk S d_is_whole N_is_whole f_is_whole false := ⟨rfl, ⟨rfl, rfl, rfl, by decide +kernel, rfl, by decide +kernel, by decide +kernel⟩, by decide, rfl, by kernel_rfl, fun _ _ _ _ _ _ us hl => match us, hl with | [_, _, _], _ => rfl⟩
theorem ok_is_tuple_of : DefOk S d_is_tuple_of N_is_tuple_of f_is_tuple_of false := ⟨rfl, ⟨rfl, rfl, rfl, by decide +kernel, rfl, by decide +kernel, by decide +kernel⟩, by decide, rfl, by kernel_rfl, fun _ _ _ _ _ _ us hl => match us, hl with | [_, _, _], _ => rfl⟩
theorem ok_need_number : DefOk S d_need_number N_need_number f_need_number false := ⟨rfl, ⟨rfl, rfl, rfl, by decide +kernel, rfl, by decide +kernel, by decide +kernel⟩, by decide, rfl, by kernel_rfl, fun _ _ _ _ _ _ us hl => match us, hl with | [_, _, _], _ => rfl⟩
theorem ok_fits_chance : DefOk S d_fits_chance N_fits_chance f_fits_chance false := ⟨rfl, ⟨rfl, rfl, rfl, by decide +kernel, rfl, by decide +kernel, by decide +kernel⟩, by decide, rfl, by kernel_rfl, fun _ _ _ _ _ _ us hl => match us, hl with | [_], _ => rfl⟩
theorem ok_learned_in : DefOk S d_learned_in N_learned_in f_learned_in false := ⟨rfl, ⟨rfl, rfl, rfl, by decide +kernel, rfl, by decide +kernel, by decide +kernel⟩, by decide, rfl, by kernel_rfl, fun _ _ _ _ _ _ us hl => match us, hl with | [_, _], _ => rfl⟩
theorem ok_is_chance : DefOk S d_is_chance N_is_chance f_is_chance false := ⟨rfl, ⟨rfl, rfl, rfl, by decide +kernel, rfl, by decide +kernel, by decide +kernel⟩, by decide, rfl, by kernel_rfl, fun _ _ _ _ _ _ us hl => match us, hl with | [_], _ => rfl⟩
theorem ok_learned : DefOk S d_learned N_learned f_learned false := ⟨rfl, ⟨rfl, rfl, rfl, by decide +kernel, rfl, by decide +kernel, by decide +kernel⟩, by decide, rfl, by kernel_rfl, fun _ _ _ _ _ _ us hl => match us, hl with | [_, _], _ => rfl⟩
theorem ok__law_cup : DefOk S d__law_cup N__law_cup f__law_cup false := ⟨rfl, ⟨rfl, rfl, rfl, by decide +kernel, rfl, by decide +kernel, by decide +kernel⟩, by decide, rfl, by kernel_rfl, fun _ _ _ _ _ _ us hl => match us, hl with | [_], _ => rfl⟩
theorem ok__law_roll : DefOk S d__law_roll N__law_roll f__law_roll false := ⟨rfl, ⟨rfl, rfl, rfl, by decide +kernel, rfl, by decide +kernel, by decide +kernel⟩, by decide, rfl, by kernel_rfl, fun _ _ _ _ _ _ us hl => match us, hl with | [_, _], _ => rfl⟩
theorem ok__law_some : DefOk S d__law_some N__law_some f__law_some false := ⟨rfl, ⟨rfl, rfl, rfl, by decide +kernel, rfl, by decide +kernel, by decide +kernel⟩, by decide, rfl, by kernel_rfl, fun _ _ _ _ _ _ us hl => match us, hl with | [_, _], _ => rfl⟩
theorem ok__law_learned : DefOk S d__law_learned N__law_learned f__law_learned false := ⟨rfl, ⟨rfl, rfl, rfl, by decide +kernel, rfl, by decide +kernel, by decide +kernel⟩, by decide, rfl, by kernel_rfl, fun _ _ _ _ _ _ us hl => match us, hl with | [_, _], _ => rfl⟩
theorem ok__law_same : DefOk S d__law_same N__law_same f__law_same false := ⟨rfl, ⟨rfl, rfl, rfl, by decide +kernel, rfl, by decide +kernel, by decide +kernel⟩, by decide, rfl, by kernel_rfl, fun _ _ _ _ _ _ us hl => match us, hl with | [_, _], _ => rfl⟩
theorem ok_law : DefOk S d_law N_law f_law true := ⟨rfl, ⟨rfl, rfl, rfl, by decide +kernel, rfl, by decide +kernel, by decide +kernel⟩, by decide, rfl, by kernel_rfl, fun _ _ _ _ _ _ us hl => match us, hl with | [_], _ => rfl⟩
theorem defs : Defs S fn Ns lams P := .cons ok_is_whole (.cons ok_is_tuple_of (.cons ok_need_number (.cons ok_fits_chance (.cons ok_learned_in (.cons ok_is_chance (.cons ok_learned (.cons ok__law_cup (.cons ok__law_roll (.cons ok__law_some (.cons ok__law_learned (.cons ok__law_same (.cons ok_law .nil))))))))))))
theorem err__law_error : ErrD S fn "_law_error" 6 [([3], .str "chance"), ([1], .str "number"), ([2], .str "octets"), ([4], .str "row"), ([5], .str "telling"), ([0, 1, 2, 3, 4, 5], .str "other")] (.str "") := ⟨⟨13, _, "call", "", N__law_error, _, _, _, _, _, _, _, _, _, rfl, rfl, rfl, rfl, rfl, rfl, ⟨rfl, rfl, rfl, by decide +kernel, rfl, by decide +kernel, by decide +kernel⟩, rfl, .inl rfl, by kernel_rfl, rfl, rfl, by decide +kernel, by decide +kernel, by decide +kernel, by decide +kernel, by decide +kernel, fun _ _ _ _ _ _ us hl => match us, hl with | [_], _ => rfl⟩⟩
theorem row : RowOk S fn Ns lams P xc tf := ⟨defs, .cons trivial (.cons trivial (.cons trivial (.cons trivial (.cons trivial (.cons trivial (.cons trivial (.cons trivial (.cons trivial (.cons trivial (.cons trivial (.cons trivial (.cons trivial (.cons trivial (.cons trivial (.cons trivial (.cons trivial (.cons trivial (.cons trivial (.cons trivial (.cons trivial (.cons trivial (.cons trivial (.cons err__law_error .nil))))))))))))))))))))))), by decide +kernel, rfl, by decide +kernel⟩
def loose : List Str := (["FrameError", "InvalidNumber", "InvalidOctets", "InvalidChance", "InvalidRow", "InvalidTelling", "is_whole", "is_tuple_of", "need_number", "SPAN", "LEAST", "MOST", "COUNT", "fits_chance", "learned_in", "is_chance", "learned", "_law_cup", "_law_roll", "_law_some", "_law_learned", "_law_same", "_law_error"] : List Str)
abbrev R : PySem.W.OpenRow := PySem.W.OpenLaw.row PySem.Challenge.rw_framepress_k05_chances_that_learn
abbrev hk : PySem.W.Hook := He.hookX 5 (faOf S xc) fn [] (tf.map (·.1)) (exOf S tf)
def ob (s : PySem.W.SharedT) : He.AlX := He.obsX 5 (faOf S xc) fn [] (tf.map (·.1)) (exOf S tf) (HandSHeadRun.getT s)
theorem ob_eq (s : PySem.W.SharedT) : ob s = hk.obs s.abs := He.obsX_eq (HandSHeadRun.getT_eq s)
theorem run (w : World) : HandSHeadRun.RunEq R (PySem.W.view R.prog [27]) hk ob 4000 loose w := by
  intro os
  kernel_rfl
end Law
open PySem PySem.W PySem.Calls PyProof.Rows
theorem PySem.Challenge.cw_framepress_k05_chances_that_learn_holds : PySem.Challenge.rw_framepress_k05_chances_that_learn.Holds := by
  w_on; o_law
  refine HandSHeadRun.head_any (r := OpenLaw.row PySem.Challenge.rw_framepress_k05_chances_that_learn) (q := view (OpenLaw.row PySem.Challenge.rw_framepress_k05_chances_that_learn).prog [27]) (H := Law.hk) (ob := Law.ob) (M := 4000) (loose := Law.loose) (d := HandSHeadRun.topDef (OpenLaw.row PySem.Challenge.rw_framepress_k05_chances_that_learn).prog 27) (kwd := []) Law.ob_eq
    (by kernel_rfl) (fun s => by kernel_rfl) Law.run (by kernel_rfl) (by kernel_rfl) (by kernel_rfl) (by rfl) (by first | assumption | decide +kernel) (by decide +kernel) ⟨rfl, rfl, rfl, rfl, rfl, by decide +kernel⟩ ?hw ?hc
  case hw => w_witness2
  case hc =>
    refine LamX.walk_ofTsE (l := PySem.Challenge.rw_framepress_k05_chances_that_learn) (n := 63) (k := DL.F0 12) (x := "script") (CX := fun w => L2.CX PySem.Challenge.rw_framepress_k05_chances_that_learn.prog w) rfl (by decide) (by kernel_rfl) ⟨rfl, by decide, by decide⟩ ?F (fun _ => DL.cx_false)
    intro w mg fa h Y G hmg0
    obtain ⟨K, KX, c⟩ := Y
    refine ⟨K, KX, DL.law_at (gl := 12) (d := Law.d_law) (N := Law.N_law) (lam := false) (f := Law.f_law) Law.row KX c ?_ rfl rfl rfl rfl rfl Law.plain⟩
    have e : (HandSHeadRun.topDef (OpenLaw.row PySem.Challenge.rw_framepress_k05_chances_that_learn).prog 27).name = ("law" : PySem.Str) := by kernel_rfl
    rw [e] at hmg0
    have cd : He.SaysD (DL.faOf Law.S Law.xc) Law.fn K := congrArg (fun z : He.AlT => z.1) c.t
    have e2 := He.glo_ok (x := "law") KX G (cd.facts (DL.fa_mem (xc := Law.xc) (p := ("law", .fn 12 1)) (List.mem_of_getElem? (i := 12) rfl) (List.mem_singleton.mpr rfl)))
    rw [hmg0] at e2
    cases e2
    rfl
