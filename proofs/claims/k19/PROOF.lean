import PyProof.Rows.All
import KE.KDictPairs
import KE.KDictSum
import HandS.ForMost
import HandS.IsInst
import HandS.TupAny
import HandS.Deep
import HandS.ListItems
import HandS.DictComp
import HandS.Conv
import HandS.Star
import HandS.ClsMeth
import HandS.Property
import HandS.Strs
import HandS.Text
import HandS.RevTup
import HandS.ExcOwn
import KE.GoesMore
import KE.GoesZip
import KE.GoesEnum
import PyProof.Draws
import PyProof.Rows.MatchSeqLen
import HandS.GenOver
import HandS.GenList
import HandS.Defaults
import HandS.HeadNt
import HandS.Head0
import HandS.Head1
import HandS.Head2
import HandS.HeadEnd
import PySem.Challenge.RW_waitmoves_k19_whole_faults_that_are_mend
set_option Elab.async false
set_option linter.all false
set_option maxRecDepth 100000
/-! Mi, the pure side: data, a small syntax, its evaluator. -/
namespace Mi
open PySem L2

/-- data without addresses -/
inductive D where
  | non | bl (b : Bool) | int (i : Int) | str (x : Str) | byt (b : Array UInt8)
  | tup (xs : List D) | lst (xs : List D) | dic (kvs : List (Key × D)) | ins (c : Nat) (vs : List D) | cls (c : Nat) | scr (ns : List Int)
  deriving Inhabited
/-- a local name: not known; a value that never changes; an object that is this name's own (sub: its fields that hold lists of its own) -/
inductive Slot where | emp | fz (d : D) | ow (d : D) (sub : List Nat)
  deriving Inhabited
/-- what an expression gives: a value, a new object, a name's own object -/
inductive R where | fz (d : D) | ow (d : D) (sub : List Nat) | bo (i : Nat)
/-- the frame, and what a generator has handed out -/
structure Sta where
  fr : List Slot
  out : List D
inductive Res (α : Type) where | ok (a : α) (s : Sta) | exc (c : Nat) (vs : List D) (s : Sta) | bad
def M (α : Type) : Type := Sta → Res α
def M.pure {α : Type} (a : α) : M α := fun s => .ok a s
def M.bind {α β : Type} (m : M α) (k : α → M β) : M β := fun s => match m s with
  | .ok a s' => k a s'
  | .exc c v s' => .exc c v s'
  | .bad => .bad
instance : Monad M where
  pure := M.pure
  bind := M.bind
def M.bad {α : Type} : M α := fun _ => .bad
def M.opt {α : Type} : Option α → M α
  | some a => M.pure a
  | none => M.bad
/-- from a function's call: the result, what stands in the parameters that are the callee's own for a while, what was handed out -/
inductive FR where | ok (r : R) (outs : List Slot) (tr : List D) | exc (c : Nat) (vs : List D) (outs : List Slot) (tr : List D) | bad
structure G where
  call : Nat → List Slot → FR
  md : Nat → List Bool
  va : Nat → Bool
  wf : Nat

/-! ### built-in operations on data -/
abbrev LIM : Nat := 16777216
inductive Ty where | int | bool | str | tup | lst | dic
  deriving DecidableEq
def isTy : Ty → D → Option Bool
  | t, .non => some false
  | t, .bl _ => some (t == .int || t == .bool)
  | t, .int _ => some (t == .int)
  | t, .str _ => some (t == .str)
  | t, .tup _ => some (t == .tup)
  | t, .lst _ => some (t == .lst)
  | t, .dic _ => some (t == .dic)
  | _, _ => none
/-- the first n steps of a fold over the kinds -/
def isAny : List Ty → D → Option Bool
  | [], d => some false
  | t :: ts, d => match isTy t d with
    | some true => some true
    | some false => isAny ts d
    | none => none
def allEq (f : D → D → Bool) : List D → List D → Bool
  | [], [] => true
  | x :: xs, y :: ys => f x y && allEq f xs ys
  | _, _ => false
/-- equal, nested at most n deep -/
def eqN : Nat → D → D → Bool
  | _, .non, .non => true
  | _, .bl a, .bl b => a == b
  | _, .bl a, .int j => (if a then 1 else 0) == j
  | _, .int i, .bl b => i == (if b then 1 else 0)
  | _, .int i, .int j => i == j
  | _, .str x, .str y => x == y
  | n + 1, .tup xs, .tup ys => allEq (eqN n) xs ys
  | n + 1, .lst xs, .lst ys => allEq (eqN n) xs ys
  | _, _, _ => false
/-- data whose texts are of signs, nested at most n deep, without dicts and objects -/
def okN : Nat → D → Bool
  | _, .non => true
  | _, .bl _ => true
  | _, .int _ => true
  | _, .str x => x.cps.all (· < 0x110000)
  | n + 1, .tup xs => xs.all (okN n)
  | n + 1, .lst xs => xs.all (okN n)
  | _, _ => false
/-- scalars that == tells apart at once -/
def scalD : D → D → Bool
  | .non, .non => true | .non, .int _ => true | .int _, .non => true | .non, .bl _ => true | .bl _, .non => true | .non, .str _ => true | .str _, .non => true
  | .int _, .int _ => true | .bl _, .bl _ => true | .str _, .str _ => true
  | .int _, .str _ => true | .str _, .int _ => true | .bl _, .str _ => true | .str _, .bl _ => true
  | _, _ => false
def eqD (a b : D) : Option Bool :=
  if scalD a b = true then some (eqN 0 a b) else if okN 60 a = true ∧ okN 60 b = true then some (eqN 60 a b) else none
def flatD : D → Bool
  | .non => true
  | .bl _ => true
  | .int _ => true
  | .str _ => true
  | _ => false
def anyEq (x : D) (ys : List D) : Option Bool :=
  if (flatD x && ys.all flatD) = true then some (ys.any fun y => eqN 0 y x)
  else if (okN 60 x && ys.all (okN 59)) = true then some (ys.any fun y => eqN 60 y x) else none
def keyOf : D → Option Key
  | .int i => some (.inl i)
  | .str x => some (.inr x)
  | _ => none
def dget : List (Key × D) → Key → Option D
  | [], _ => none
  | (k', d) :: r, k => if k' = k then some d else dget r k
def dput (kvs : List (Key × D)) (k : Key) (v : D) : List (Key × D) :=
  if (dget kvs k).isSome = true then kvs.map (fun p => if p.1 = k then (p.1, v) else p) else kvs ++ [(k, v)]
def kD : Key → D
  | .inl i => .int i
  | .inr x => .str x
def cut {α : Type} (xs : List α) (lo hi : Option Int) : List α := (xs.drop (HT.sIx xs.length 0 lo)).take (HT.sIx xs.length xs.length hi - HT.sIx xs.length 0 lo)
def pairsOf : List D → Option (List (Key × D))
  | [] => some []
  | .tup [k, v] :: r => (keyOf k).bind fun k' => (pairsOf r).map fun kvs => (k', v) :: kvs
  | _ => none
def mergeD (acc : List (Key × D)) : List (Key × D) → List (Key × D)
  | [] => acc
  | (k, v) :: r => mergeD (dput acc k v) r
def boolsOf : List D → Option (List Bool)
  | [] => some []
  | .bl b :: r => (boolsOf r).map (b :: ·)
  | _ => none
/-- the first place of an item equal to x -/
def findEq (x : D) (ys : List D) : Option Nat := if (flatD x && ys.all flatD) = true then ys.findIdx? fun y => eqN 0 y x else none
def countEq (x : D) (ys : List D) : Option Nat := if (flatD x && ys.all flatD) = true then some (ys.countP fun y => eqN 0 y x) else none
def truD : D → Option Bool
  | .non => some false
  | .bl b => some b
  | .int i => some (i != 0)
  | .str x => if x.length ≤ LIM then some ((x.length : Int) != 0) else none
  | .tup xs => some (!xs.isEmpty)
  | .lst xs => some (!xs.isEmpty)
  | .dic kvs => some (!kvs.isEmpty)
  | _ => none
inductive Cm where | eq | ne | lt | le | gt | ge | isN | notN | isin | notin
  deriving DecidableEq
def cmD : Cm → D → D → Option Bool
  | .eq, a, b => eqD a b
  | .ne, a, b => (eqD a b).map not
  | .lt, .int a, .int b => some (decide (a < b))
  | .le, .int a, .int b => some (decide (a ≤ b))
  | .gt, .int a, .int b => some (decide (b < a))
  | .ge, .int a, .int b => some (decide (b ≤ a))
  | .isN, a, .non => some (match a with | .non => true | _ => false)
  | .notN, a, .non => some (match a with | .non => false | _ => true)
  | .isin, a, .tup xs => anyEq a xs
  | .isin, a, .lst xs => anyEq a xs
  | .isin, .str a, .str b => match a.cps.toList with
    | [c] => some (decide (c ∈ b.cps.toList))
    | _ => none
  | .isin, a, .dic kvs => (keyOf a).map fun k => (dget kvs k).isSome
  | .notin, a, .tup xs => (anyEq a xs).map not
  | .notin, a, .lst xs => (anyEq a xs).map not
  | .notin, a, .dic kvs => (keyOf a).map fun k => !(dget kvs k).isSome
  | _, _, _ => none
inductive BI where
  | isinst (ts : List Ty) | len | idx | slc (lo hi : Bool) | add | sub | mul | fdiv | mod | pow | cm (c : Cm)
  | toInt | toTup | toLst | toDic | all | getD | count | index | listItems | listVals
  deriving DecidableEq
inductive BR where | fz (d : D) | ow (d : D) | bad
def BR.o : Option D → BR
  | some d => .fz d
  | none => .bad
def BR.b : Option Bool → BR
  | some b => .fz (.bl b)
  | none => .bad
def slPart : Bool → List D → Option (Option Int × List D)
  | false, r => some (none, r)
  | true, .int i :: r => some (some i, r)
  | true, _ => none
def slOf (lo hi : Bool) (r : List D) : Option (Option Int × Option Int) :=
  match slPart lo r with
  | some (l, r1) => match slPart hi r1 with
    | some (h, []) => some (l, h)
    | _ => none
  | none => none
def small64 (i : Int) : Bool := decide (-(2 ^ 64) < i) && decide (i < 2 ^ 64)
def evBI : BI → List D → BR
  | .isinst ts, [d] => .b (isAny ts d)
  | .len, [.tup xs] => .fz (.int xs.length)
  | .len, [.lst xs] => .fz (.int xs.length)
  | .len, [.dic kvs] => .fz (.int kvs.length)
  | .len, [.scr ns] => .fz (.int ns.length)
  | .len, [.str x] => if x.length ≤ LIM then .fz (.int x.length) else .bad
  | .idx, [.tup xs, .int i] => .o (atI xs i)
  | .idx, [.lst xs, .int i] => .o (atI xs i)
  | .idx, [.scr ns, .int i] => .o ((atI ns i).map .int)
  | .idx, [.str z, .int i] => if z.length ≤ LIM then .o ((atI z.cps.toList i).map fun c => .str ⟨#[c]⟩) else .bad
  | .idx, [.dic kvs, k] => .o ((keyOf k).bind (dget kvs))
  | .slc lo hi, .tup xs :: r => match slOf lo hi r with
    | some (l, h) => .fz (.tup (cut xs l h))
    | none => .bad
  | .slc lo hi, .lst xs :: r => match slOf lo hi r with
    | some (l, h) => .ow (.lst (cut xs l h))
    | none => .bad
  | .add, [.int a, .int b] => .fz (.int (a + b))
  | .add, [.str a, .str b] => if a.length + b.length ≤ LIM then .fz (.str (a ++ b)) else .bad
  | .add, [.tup a, .tup b] => if a.length + b.length ≤ LIM then .fz (.tup (a ++ b)) else .bad
  | .add, [.lst a, .lst b] => if a.length + b.length ≤ LIM then .ow (.lst (a ++ b)) else .bad
  | .sub, [.int a, .int b] => .fz (.int (a - b))
  | .mul, [.int a, .int b] => if small64 a = true ∨ small64 b = true then .fz (.int (a * b)) else .bad
  | .fdiv, [.int a, .int b] => if b ≠ 0 ∧ b.natAbs < 1073741824 then .fz (.int (a.fdiv b)) else .bad
  | .mod, [.int a, .int b] => if b ≠ 0 then .fz (.int (a.fmod b)) else .bad
  | .pow, [.int a, .int b] => if 0 ≤ b ∧ b ≤ 1000000 ∧ a.natAbs < 2 ^ 64 then .fz (.int (a ^ b.toNat)) else .bad
  | .cm c, [a, b] => .b (cmD c a b)
  | .toInt, [.int a] => .fz (.int a)
  | .toInt, [.bl a] => .fz (.int (if a then 1 else 0))
  | .toTup, [.tup xs] => .fz (.tup xs)
  | .toTup, [.lst xs] => .fz (.tup xs)
  | .toTup, [.dic kvs] => .fz (.tup (kvs.map fun p => kD p.1))
  | .toLst, [.tup xs] => .ow (.lst xs)
  | .toLst, [.lst xs] => .ow (.lst xs)
  | .toLst, [.dic kvs] => .ow (.lst (kvs.map fun p => kD p.1))
  | .toDic, [.tup xs] => match pairsOf xs with
    | some kvs => .ow (.dic (mergeD [] kvs))
    | none => .bad
  | .toDic, [.lst xs] => match pairsOf xs with
    | some kvs => .ow (.dic (mergeD [] kvs))
    | none => .bad
  | .all, [.lst xs] => match boolsOf xs with
    | some bs => .fz (.bl (bs.all id))
    | none => .bad
  | .getD, [.dic kvs, k, x] => match keyOf k, flatD x with
    | some k, true => .fz ((dget kvs k).getD x)
    | _, _ => .bad
  | .count, [.lst xs, x] => match countEq x xs with
    | some n => .fz (.int n)
    | none => .bad
  | .count, [.tup xs, x] => match countEq x xs with
    | some n => .fz (.int n)
    | none => .bad
  | .index, [.lst xs, x] => match findEq x xs with
    | some n => .fz (.int n)
    | none => .bad
  | .index, [.tup xs, x] => match findEq x xs with
    | some n => .fz (.int n)
    | none => .bad
  | .listVals, [.dic kvs] => .ow (.lst (kvs.map fun p => p.2))
  | .listItems, [.dic kvs] => .ow (.lst (kvs.map fun p => .tup [kD p.1, p.2]))
  | _, _ => .bad

/-! ### the syntax -/
/-- an assignment's target -/
inductive Tg where | nm (i : Nat) | tn (is : List Nat) | t2 (a b : Tg)
mutual
inductive CE where
  | var (i : Nat) | bor (i : Nat) | mv (i : Nat) | cst (d : D) | gcst (x : Str) (d : D)
  | tupE (es : CA) | lstE (es : CA) | dicE
  | bi (b : BI) (es : CA) | bm (b : BI) (o : CE) (es : CA) | chain (c1 c2 : Cm) (a b c : CE)
  | and (a b : CE) | or (a b : CE) | not (a : CE) | ite (t : CT) (a b : CE)
  | fld (a : CE) (c k : Nat) | prop (a : CE) (c : Nat) (f : Str) (j : Nat)
  | call (j : Nat) (es : CA) | meth (a : CE) (c : Nat) (m : Str) (j : Nat) (es : CA)
  | mk (c j : Nat) (es : CA) | mkv (i : Nat) (c j : Nat) (es : CA) | cmeth (c : Nat) (m : Str) (j : Nat) (es : CA)
  | lc (src : CI) (tg : Tg) (t : CT) (e : CE) (own : List Nat) | dc (src : CI) (tg : Tg) (k v : CE) (own : List Nat)
  | listG (j : Nat) (es : CA) | pop (i : Nat) (e : CE)
inductive CT where | tt | val (e : CE) | not (t : CT) | and (a b : CT) | or (a b : CT)
inductive CA where | nil | cons (e : CE) (r : CA) | star (e : CE) (r : CA)
inductive CI where | val (e : CE) | rng1 (e : CE) | rng2 (a b : CE) | enum (e : CE) | zip (a b : CE) | items (e : CE) | gen (j : Nat) (es : CA)
end
mutual
inductive CS where
  | expr (e : CE) | asg (i : Nat) (o : Bool) (e : CE) | asgT (tg : Tg) (e : CE) | par2 (i : Nat) (o : Bool) (a : CE) (j : Nat) (p : Bool) (b : CE)
  | setI (i : Nat) (k e : CE) | subI (i : Nat) (k e : CE) | app (i : Nat) (e : CE) | setF (i : Nat) (c k : Nat) (e : CE)
  | ite (t : CT) (a b : CB) | forS (tg : Tg) (src : CI) (b : CB) | whil (t : CT) (b : CB)
  | ret (e : CE) | retN | raise (c : Nat) (es : CA) | tryE (b : CB) (c : Nat) (h : CB)
  | mseq (i : Nat) (is : List Nat) (g : CT) (b e : CB)
  | pass | never | cnt | brk | yld (e : CE) | yldG (j : Nat) (es : CA)
inductive CB where | nil | cons (s : CS) (r : CB)
end
inductive Fl where | nx | brk | cnt | ret (r : R)

/-! ### the evaluator -/
def setS (i : Nat) (x : Slot) : M Unit := fun s => if i < s.fr.length then .ok () { s with fr := s.fr.set i x } else .bad
def getS (i : Nat) : M Slot := fun s => match s.fr[i]? with
  | some x => .ok x s
  | none => .bad
def rdR (s : Sta) : R → Option D
  | .fz d => some d
  | .ow d _ => some d
  | .bo i => match s.fr[i]? with
    | some (.ow d _) => some d
    | _ => none
def rdAll (s : Sta) : List R → Option (List D)
  | [] => some []
  | r :: rs => (rdR s r).bind fun d => (rdAll s rs).map (d :: ·)
/-- the values as they stand -/
def reads (rs : List R) : M (List D) := fun s => match rdAll s rs with
  | some ds => .ok ds s
  | none => .bad
def tag : D → Nat
  | .non => 0
  | .bl _ => 1
  | .int _ => 2
  | .str _ => 3
  | .byt _ => 4
  | .tup _ => 5
  | .lst _ => 6
  | .dic _ => 7
  | .ins _ _ => 8
  | .cls _ => 9
  | .scr _ => 10
/-- of what kind the value is as it stands -/
def tagM (r : R) : M Nat := fun s => match rdR s r with
  | some d => .ok (tag d) s
  | none => .bad
def evBM (k : Nat) (b : BI) : List D → BR
  | [] => .bad
  | d :: ds => if tag d = k then evBI b (d :: ds) else .bad
/-- a value that may be kept: what is new is never changed from here on -/
def keepR : R → Option D
  | .fz d => some d
  | .ow d [] => some d
  | _ => none
def keepAll : List R → Option (List D)
  | [] => some []
  | r :: rs => (keepR r).bind fun d => (keepAll rs).map (d :: ·)
def ofBR : BR → M R
  | .fz d => M.pure (.fz d)
  | .ow d => M.pure (.ow d [])
  | .bad => M.bad
def lstD : D → Option (List D)
  | .tup xs => some xs
  | .lst xs => some xs
  | _ => none
def noSeq : D → Bool
  | .non => true
  | .bl _ => true
  | .int _ => true
  | .str _ => true
  | .dic _ => true
  | _ => false
/-- what a for walks -/
def iterD : D → Option (List D)
  | .tup xs => some xs
  | .lst xs => some xs
  | .str x => some (x.cps.toList.map fun c => .str ⟨#[c]⟩)
  | .scr ns => some (ns.map .int)
  | _ => none
/-- parameters by their modes: false: a value; true: the callee's own for a while. va: what is left over is a tuple -/
def toSlots (s : Sta) : List Bool → Bool → List R → Option (List Slot)
  | false :: ms, va, r :: rs => (keepR r).bind fun d => (toSlots s ms va rs).map (.fz d :: ·)
  | true :: ms, va, .bo i :: rs => match s.fr[i]? with
    | some (.ow d sub) => (toSlots s ms va rs).map (.ow d sub :: ·)
    | _ => none
  | [], true, rs => if rs.length ≤ LIM then (keepAll rs).map fun ds => [.fz (.tup ds)] else none
  | [], false, [] => some []
  | _, _, _ => none
/-- the caller's own objects as the callee leaves them -/
def backS : List Bool → List R → List Slot → List Slot → List Slot
  | m :: ms, r :: rs, o :: os, fr => backS ms rs os (match m, r with
    | true, .bo i => fr.set i o
    | _, _ => fr)
  | _, _, _, fr => fr
def boAll : List R → List Nat
  | .bo i :: rs => i :: boAll rs
  | _ :: rs => boAll rs
  | [] => []
def doCall (g : G) (j : Nat) (rs : List R) : M R := fun s =>
  match (if (boAll rs).Nodup then toSlots s (g.md j) (g.va j) rs else none) with
  | none => .bad
  | some sl => match g.call j sl with
    | .ok r outs _ => .ok r { s with fr := backS (g.md j) rs outs s.fr }
    | .exc c vs outs _ => .exc c vs { s with fr := backS (g.md j) rs outs s.fr }
    | .bad => .bad
/-- a generator that is drained at once -/
def doGen (g : G) (j : Nat) (rs : List R) : M (List D) := fun s =>
  match (if boAll rs = [] then toSlots s (g.md j) (g.va j) rs else none) with
  | none => .bad
  | some sl => match g.call j sl with
    | .ok _ _ tr => .ok tr s
    | .exc c vs _ [] => .exc c vs s
    | _ => .bad
def doMk (g : G) (c j : Nat) (rs : List R) : M R := fun s =>
  match g.md j with
  | true :: ms => match (if boAll rs = [] then toSlots s ms (g.va j) rs else none) with
    | none => .bad
    | some sl => match g.call j (.ow (.ins c []) [] :: sl) with
      | .ok (.fz .non) (.ow (.ins c' vs) sub :: _) _ => .ok (.ow (.ins c' vs) sub) s
      | .exc k vs _ _ => .exc k vs s
      | _ => .bad
  | _ => .bad
def asgAll : List Nat → List D → M Unit
  | [], [] => pure ()
  | i :: is, d :: ds => do setS i (.fz d); asgAll is ds
  | _, _ => M.bad
def asgTg : Tg → D → M Unit
  | .nm i, d => setS i (.fz d)
  | .tn is, .tup ds => asgAll is ds
  | .t2 a b, .tup [x, y] => do asgTg a x; asgTg b y
  | _, _ => M.bad
def lcL (f : D → M (Option D)) : List D → List D → M (List D)
  | [], acc => pure acc
  | d :: ds, acc => do
    match ← f d with
    | none => lcL f ds acc
    | some x => if acc.length < LIM then lcL f ds (acc ++ [x]) else M.bad
def dcL (f : D → M (Key × D)) : List D → List (Key × D) → M (List (Key × D))
  | [], acc => pure acc
  | d :: ds, acc => do
    let (k, v) ← f d
    if acc.length < LIM then dcL f ds (dput acc k v) else M.bad
def wipeS (own : List Nat) (fr : List Slot) : List Slot := own.foldr (fun i f => f.set i .emp) fr
def wipeM (own : List Nat) : M Unit := fun s => .ok () { s with fr := wipeS own s.fr }
def notOw : Option Slot → Bool
  | some (.ow _ _) => false
  | some _ => true
  | none => false
/-- a comprehension's block: its own names apart, nothing is raised -/
def blk {α : Type} (own : List Nat) (m : M α) : M α := fun s => if own.all (fun i => notOw s.fr[i]?) = true then (match m { s with fr := wipeS own s.fr } with
  | .ok a s' => .ok a { s' with fr := own.foldr (fun i f => f.set i (s.fr.getD i .emp)) s'.fr }
  | _ => .bad) else .bad
def forL (f : D → M Fl) : List D → M Fl
  | [] => pure .nx
  | d :: ds => do
    match ← f d with
    | .nx => forL f ds
    | .cnt => forL f ds
    | .brk => pure .nx
    | .ret r => pure (.ret r)
def whL (t : M Bool) (b : M Fl) : Nat → M Fl
  | 0 => M.bad
  | n + 1 => do
    match ← t with
    | false => pure .nx
    | true => match ← b with
      | .nx => whL t b n
      | .cnt => whL t b n
      | .brk => pure .nx
      | .ret r => pure (.ret r)
def enumD (k : Nat) : List D → List D
  | [] => []
  | d :: ds => .tup [.int k, d] :: enumD (k + 1) ds
def zipD : List D → List D → List D
  | x :: xs, y :: ys => .tup [x, y] :: zipD xs ys
  | _, _ => []
def rngD (lo hi : Int) : List D := (List.range (hi - lo).toNat).map fun (i : Nat) => .int (lo + (i : Int))
def ranOk (i : Int) : Bool := decide (-(2 ^ 62) ≤ i) && decide (i < 2 ^ 62)
def keepM (r : R) : M D := M.opt (keepR r)
def noInsS : Slot → Bool
  | .ow (.ins _ _) _ => false
  | _ => true
def yldM (d : D) : M Unit := fun s => if s.out.length < LIM ∧ s.fr.all noInsS = true then .ok () { s with out := s.out ++ [d] } else .bad
/-- the k-th field of an instance of the class c, and no list of its own -/
def insF (c k : Nat) : D → List Nat → Option D
  | .ins c' vs, sub => if c' = c ∧ k ∉ sub then vs[k]? else none
  | _, _ => none
def ldF (s : Sta) : R → Nat → Nat → Option D
  | .fz d, c, k => insF c k d []
  | .ow d sub, c, k => insF c k d sub
  | .bo i, c, k => match s.fr[i]? with
    | some (.ow d sub) => insF c k d sub
    | _ => none
def isIns (c : Nat) : D → Bool
  | .ins c' _ => c' == c
  | _ => false
/-- the name holds an object of its own, of that kind -/
def ownM (i : Nat) (f : Nat → Bool) : M Unit := fun s => match s.fr[i]? with
  | some (.ow d _) => if f (tag d) = true then .ok () s else .bad
  | _ => .bad
/-- it is an instance of the class c -/
def insM (c : Nat) (r : R) : M Unit := fun s => match rdR s r with
  | some d => if isIns c d = true then .ok () s else .bad
  | none => .bad
def bmOk : BI → Nat → Bool
  | .count, k => k == 5 || k == 6
  | .index, k => k == 5 || k == 6
  | .getD, k => k == 7
  | _, _ => false
def intOf : D → Option Int
  | .int i => some i
  | _ => none
def intAt (k : D) : D → Option Int
  | .dic kvs => ((keyOf k).bind (dget kvs)).bind intOf
  | _ => none
/-- the number that an own dict has at a key -/
def dicInt (i : Nat) (k : D) : M Int := fun s => match s.fr[i]? with
  | some (.ow d _) => match intAt k d with
    | some x => .ok x s
    | none => .bad
  | _ => .bad
def popL (k : Int) : D → Option (D × D)
  | .lst xs => if ranOk k = true then (ixN xs.length k).bind fun n => (xs[n]?).map fun x => (x, .lst (xs.eraseIdx n)) else none
  | _ => none
def popM (i : Nat) (k : Int) : M R := fun s => match s.fr[i]? with
  | some (.ow d sub) => match popL k d with
    | some (x, d') => .ok (.fz x) { s with fr := s.fr.set i (.ow d' sub) }
    | none => .bad
  | _ => .bad
mutual
def evE (g : G) : CE → M R
  | .var i => do match ← getS i with
    | .fz d => pure (.fz d)
    | _ => M.bad
  | .bor i => do match ← getS i with
    | .ow _ _ => pure (.bo i)
    | _ => M.bad
  | .mv i => do match ← getS i with
    | .ow d sub => do setS i .emp; pure (.ow d sub)
    | _ => M.bad
  | .cst d => pure (.fz d)
  | .gcst _ d => pure (.fz d)
  | .tupE es => do
    let ds ← M.opt (keepAll (← evA g es))
    if ds.length ≤ LIM then pure (.fz (.tup ds)) else M.bad
  | .lstE es => do
    let ds ← M.opt (keepAll (← evA g es))
    if ds.length ≤ LIM then pure (.ow (.lst ds) []) else M.bad
  | .dicE => pure (.ow (.dic []) [])
  | .bi b es => do ofBR (evBI b (← reads (← evA g es)))
  | .bm b o es => do
    let x ← evE g o
    let k ← tagM x
    if bmOk b k = true then do
      let rs ← evA g es
      ofBR (evBM k b (← reads (x :: rs)))
    else M.bad
  | .chain c1 c2 a b c => do
    let x ← evE g a
    let y ← evE g b
    match evBI (.cm c1) (← reads [x, y]) with
    | .fz (.bl true) => do
      let z ← evE g c
      ofBR (evBI (.cm c2) (← reads [y, z]))
    | .fz (.bl false) => pure (.fz (.bl false))
    | _ => M.bad
  | .and a b => do match ← evE g a with
    | .fz (.bl true) => evE g b
    | .fz (.bl false) => pure (.fz (.bl false))
    | _ => M.bad
  | .or a b => do match ← evE g a with
    | .fz (.bl true) => pure (.fz (.bl true))
    | .fz (.bl false) => evE g b
    | _ => M.bad
  | .not a => do match ← evE g a with
    | .fz (.bl b) => pure (.fz (.bl (!b)))
    | _ => M.bad
  | .ite t a b => do if (← evT g t) = true then evE g a else evE g b
  | .fld a c k => do
    let r ← evE g a
    fun s => match ldF s r c k with
      | some d => .ok (.fz d) s
      | none => .bad
  | .prop a c _ j => do
    let r ← evE g a
    insM c r
    doCall g j [r]
  | .call j es => do doCall g j (← evA g es)
  | .meth a c _ j es => do
    let x ← evE g a
    insM c x
    doCall g j (x :: (← evA g es))
  | .mk c j es => do doMk g c j (← evA g es)
  | .mkv i c j es => do
    match ← getS i with
    | .fz (.cls c') => if c' = c then do doMk g c j (← evA g es) else M.bad
    | _ => M.bad
  | .cmeth c _ j es => do doCall g j (.fz (.cls c) :: (← evA g es))
  | .lc src tg t e own => do
    let ds ← evI g src
    let xs ← blk own (lcL (fun d => do
      asgTg tg d
      if (← evT g t) = true then do
        let x ← keepM (← evE g e)
        wipeM own
        pure (some x)
      else do
        wipeM own
        pure none) ds [])
    pure (.ow (.lst xs) [])
  | .dc src tg k v own => do
    let ds ← evI g src
    let xs ← blk own (dcL (fun d => do
      asgTg tg d
      let kr ← evE g k
      let vr ← evE g v
      let kd ← keepM kr
      let vd ← keepM vr
      let kk ← M.opt (keyOf kd)
      wipeM own
      pure (kk, vd)) ds [])
    pure (.ow (.dic xs) [])
  | .listG j es => do
    let ds ← doGen g j (← evA g es)
    pure (.ow (.lst ds) [])
  | .pop i e => do
    ownM i (· == 6)
    let k ← M.opt ((keepR (← evE g e)).bind intOf)
    popM i k
def evT (g : G) : CT → M Bool
  | .tt => pure true
  | .val e => do
    let r ← evE g e
    fun s => match (rdR s r).bind truD with
      | some b => .ok b s
      | none => .bad
  | .not t => do pure (!(← evT g t))
  | .and a b => do if (← evT g a) = true then evT g b else pure false
  | .or a b => do if (← evT g a) = true then pure true else evT g b
def evA (g : G) : CA → M (List R)
  | .nil => pure []
  | .cons e r => do
    let x ← evE g e
    let xs ← evA g r
    pure (x :: xs)
  | .star e r => do
    let x ← keepM (← evE g e)
    match lstD x with
    | some ds => do
      let xs ← evA g r
      pure (ds.map R.fz ++ xs)
    | none => M.bad
def evI (g : G) : CI → M (List D)
  | .val e => do
    let d ← keepM (← evE g e)
    M.opt (iterD d)
  | .rng1 e => do match ← keepM (← evE g e) with
    | .int j => if ranOk j = true then pure (rngD 0 j) else M.bad
    | _ => M.bad
  | .rng2 a b => do
    let x ← keepM (← evE g a)
    let y ← keepM (← evE g b)
    match x, y with
    | .int i, .int j => if ranOk i = true ∧ ranOk j = true then pure (rngD i j) else M.bad
    | _, _ => M.bad
  | .enum e => do
    let x ← keepM (← evE g e)
    match lstD x with
    | some ds => pure (enumD 0 ds)
    | none => M.bad
  | .zip a b => do
    let x ← keepM (← evE g a)
    let y ← keepM (← evE g b)
    match lstD x, lstD y with
    | some xs, some ys => pure (zipD xs ys)
    | _, _ => M.bad
  | .items e => do match ← keepM (← evE g e) with
    | .dic kvs => pure (kvs.map fun p => .tup [kD p.1, p.2])
    | _ => M.bad
  | .gen j es => do doGen g j (← evA g es)
end
/-- x = e: kept as it is, or the name's own -/
def bindM (i : Nat) (o : Bool) (r : R) : M Unit :=
  match o, r with
  | true, .ow d sub => setS i (.ow d sub)
  | false, r => do setS i (.fz (← keepM r))
  | _, _ => M.bad
def updI (i : Nat) (f : D → Option D) : M Unit := do
  match ← getS i with
  | .ow d sub => match f d with
    | some d' => setS i (.ow d' sub)
    | none => M.bad
  | _ => M.bad
/-- the name's own object has no list of its own at that field -/
def subM (i k : Nat) : M Unit := fun s => match s.fr[i]? with
  | some (.ow _ sub) => if k ∈ sub then .bad else .ok () s
  | _ => .bad
def putI (k v : D) : D → Option D
  | .lst xs => match k with
    | .int z => (ixN xs.length z).map fun j => .lst (xs.set j v)
    | _ => none
  | .dic kvs => (keyOf k).bind fun k' => if kvs.length < LIM then some (.dic (dput kvs k' v)) else none
  | _ => none
def appI (v : D) : D → Option D
  | .lst xs => if xs.length < LIM then some (.lst (xs ++ [v])) else none
  | _ => none
def putFl (c k : Nat) (v : D) : D → Option D
  | .ins c' vs => if c' = c then (if k < vs.length then some (.ins c (vs.set k v)) else if k = vs.length then some (.ins c (vs ++ [v])) else none) else none
  | _ => none
mutual
def evS (g : G) : CS → M Fl
  | .expr e => do let _ ← evE g e; pure .nx
  | .asg i o e => do bindM i o (← evE g e); pure .nx
  | .asgT tg e => do asgTg tg (← keepM (← evE g e)); pure .nx
  | .par2 i o a j p b => do
    let x ← evE g a
    let y ← evE g b
    bindM j p y
    bindM i o x
    pure .nx
  | .setI i k e => do
    let v ← evE g e
    ownM i (fun _ => true)
    let kd ← evE g k
    let dv ← keepM v
    let dk ← keepM kd
    updI i (putI dk dv)
    pure .nx
  | .subI i k e => do
    ownM i (fun _ => true)
    let kd ← keepM (← evE g k)
    let x ← dicInt i kd
    let y ← M.opt ((keepR (← evE g e)).bind intOf)
    ownM i (· == 7)
    updI i (putI kd (.int (x - y)))
    pure .nx
  | .app i e => do
    ownM i (· == 6)
    updI i (appI (← keepM (← evE g e)))
    pure .nx
  | .setF i c k e => do
    let d ← keepM (← evE g e)
    subM i k
    updI i (putFl c k d)
    pure .nx
  | .ite t a b => do if (← evT g t) = true then evB g a else evB g b
  | .forS tg src b => do
    let ds ← evI g src
    forL (fun d => do asgTg tg d; evB g b) ds
  | .whil t b => whL (evT g t) (evB g b) g.wf
  | .ret e => do
    match ← evE g e with
    | .bo _ => M.bad
    | r => pure (.ret r)
  | .retN => pure (.ret (.fz .non))
  | .raise c es => do
    let ds ← M.opt (keepAll (← evA g es))
    (fun s => Res.exc c ds s : M Fl)
  | .tryE b c h => fun s => match evB g b s with
    | .exc c' vs s' => if c' = c then evB g h s' else .exc c' vs s'
    | r => r
  | .mseq i is gd b e => getS i >>= fun x => match x with
    | .fz (.tup ds) => if ds.length = is.length then asgAll is ds >>= fun _ => evT g gd >>= fun t => (if t = true then evB g b else evB g e) else evB g e
    | .fz (.lst ds) => if ds.length = is.length then M.bad else evB g e
    | .fz d => if noSeq d = true then evB g e else M.bad
    | _ => M.bad
  | .pass => pure .nx
  | .never => M.bad
  | .cnt => pure .cnt
  | .brk => pure .brk
  | .yld e => do yldM (← keepM (← evE g e)); pure .nx
  | .yldG j es => do
    let ds ← doGen g j (← evA g es)
    fun s => if s.out.length + ds.length ≤ LIM then .ok .nx { s with out := s.out ++ ds } else .bad
def evB (g : G) : CB → M Fl
  | .nil => pure .nx
  | .cons s r => do
    match ← evS g s with
    | .nx => evB g r
    | f => pure f
end

/-! ### functions -/
structure CF where
  md : List Bool
  va : Bool
  ns : Nat
  body : CB
/-- what stands in the parameters that are the def's own for a while -/
def maskS : List Bool → List Slot → List Slot
  | true :: ms, x :: xs => x :: maskS ms xs
  | false :: ms, _ :: xs => .emp :: maskS ms xs
  | [], _ :: xs => .emp :: maskS [] xs
  | _, [] => []
/-- a def run on its parameters -/
def runF (g : G) (f : CF) (args : List Slot) : FR :=
  match evB g f.body { fr := args ++ List.replicate (f.ns - args.length) .emp, out := [] } with
  | .ok (.ret (.bo _)) _ => .bad
  | .ok (.ret r) s => .ok r (maskS f.md (s.fr.take args.length)) s.out
  | .ok .nx s => .ok (.fz .non) (maskS f.md (s.fr.take args.length)) s.out
  | .exc c vs s => .exc c vs (maskS f.md (s.fr.take args.length)) s.out
  | _ => .bad
def mdOf (p : List CF) (j : Nat) : List Bool := match p[j]? with
  | some f => f.md
  | none => []
def vaOf (p : List CF) (j : Nat) : Bool := match p[j]? with
  | some f => f.va
  | none => false
/-- what raises is not read -/
def FR.nox : FR → FR
  | .exc _ _ _ _ => .bad
  | r => r
/-- calls at most n deep, nothing is raised -/
def run0 (p : List CF) (wf : Nat) : Nat → Nat → List Slot → FR
  | 0, _, _ => .bad
  | n + 1, j, args => match p[j]? with
    | some f => (runF ⟨run0 p wf n, mdOf p, vaOf p, wf⟩ f args).nox
    | none => .bad
/-- calls at most n deep -/
def run (p : List CF) (wf : Nat) : Nat → Nat → List Slot → FR
  | 0, _, _ => .bad
  | n + 1, j, args => match p[j]? with
    | some f => runF ⟨run p wf n, mdOf p, vaOf p, wf⟩ f args
    | none => .bad
end Mi

set_option Elab.async false
set_option linter.all false
set_option maxRecDepth 100000
/-! Mi: what data stand for in the abstract heap. -/
namespace Mi
open PySem L2

/-- what is fixed through a law: the written part, where the classes stand, their fields -/
structure Cn where
  K : PySem.W.Frag
  C : Nat → Addr
  fl : Nat → List Str
  X : Nat → Addr
  xf : Nat → List Str

mutual
/-- F: what never changes again -/
inductive Rep (c : Cn) (F : Addr → Prop) (H : Hp) : D → V → Prop
  | non : Rep c F H .non .non
  | bl (b : Bool) : Rep c F H (.bl b) (.bl b)
  | int (i : Int) : Rep c F H (.int i) (.int i)
  | str (x : Str) : Rep c F H (.str x) (.str x)
  | byt (x : Array UInt8) : Rep c F H (.byt x) (.byt x)
  | cls (k : Nat) : Rep c F H (.cls k) (.ref (c.C k))
  | tup {a : Addr} {o : Obj} {vs : List V} {ds : List D} (f : F a) (h : H a = some (.frz o (.tup vs))) (n : o.dict = none) (r : Reps c F H ds vs) : Rep c F H (.tup ds) (.ref a)
  | lst {a : Addr} {vs : List V} {ds : List D} (f : F a) (h : H a = some (.lst vs)) (r : Reps c F H ds vs) : Rep c F H (.lst ds) (.ref a)
  | scr {a : Addr} {ns : List Int} (f : F a) (h : Rd H a (.lst (ns.map .int))) : Rep c F H (.scr ns) (.ref a)
  | scrK {a : Addr} {ns : List Int} (h : ∀ H' : Hp, SqL c.K H' a (ns.map .int)) : Rep c F H (.scr ns) (.ref a)
  | dic {a : Addr} {kvs : List (Key × V)} {ds : List (Key × D)} (f : F a) (h : H a = some (.dK kvs)) (r : RepK c F H ds kvs) : Rep c F H (.dic ds) (.ref a)
  | ins {a dx : Addr} {k : Nat} {fs : List (Str × V)} {ds : List D} (f : F a) (h : H a = some (.ins (c.C k) dx fs)) (r : RepF c F H (c.fl k) ds fs) : Rep c F H (.ins k ds) (.ref a)
inductive Reps (c : Cn) (F : Addr → Prop) (H : Hp) : List D → List V → Prop
  | nil : Reps c F H [] []
  | cons {d : D} {v : V} {ds : List D} {vs : List V} (h : Rep c F H d v) (r : Reps c F H ds vs) : Reps c F H (d :: ds) (v :: vs)
inductive RepK (c : Cn) (F : Addr → Prop) (H : Hp) : List (Key × D) → List (Key × V) → Prop
  | nil : RepK c F H [] []
  | cons {k : Key} {d : D} {v : V} {ds : List (Key × D)} {vs : List (Key × V)} (h : Rep c F H d v) (r : RepK c F H ds vs) : RepK c F H ((k, d) :: ds) ((k, v) :: vs)
inductive RepF (c : Cn) (F : Addr → Prop) (H : Hp) : List Str → List D → List (Str × V) → Prop
  | nil {ns : List Str} : RepF c F H ns [] []
  | cons {n : Str} {ns : List Str} {d : D} {v : V} {ds : List D} {vs : List (Str × V)} (h : Rep c F H d v) (r : RepF c F H ns ds vs) : RepF c F H (n :: ns) (d :: ds) ((n, v) :: vs)
end

section
variable {c : Cn} {F F' : Addr → Prop} {H H' : Hp}
theorem Rd.keep {a : Addr} {u : HO} (hH : ∀ o, H a = some o → H' a = some o) (h : Rd H a u) : Rd H' a u := by
  rcases h with h | ⟨o, h⟩
  · exact .inl (hH _ h)
  · exact .inr ⟨o, hH _ h⟩
mutual
theorem Rep.mono (hF : ∀ a, F a → F' a) (hH : ∀ a o, F a → H a = some o → H' a = some o) : ∀ {d : D} {v : V}, Rep c F H d v → Rep c F' H' d v
  | _, _, .non => .non
  | _, _, .bl b => .bl b
  | _, _, .int i => .int i
  | _, _, .str x => .str x
  | _, _, .byt x => .byt x
  | _, _, .cls k => .cls k
  | _, _, .tup f h n r => .tup (hF _ f) (hH _ _ f h) n (Reps.mono hF hH r)
  | _, _, .lst f h r => .lst (hF _ f) (hH _ _ f h) (Reps.mono hF hH r)
  | _, _, .scr f h => .scr (hF _ f) (Rd.keep (fun o => hH _ o f) h)
  | _, _, .scrK h => .scrK h
  | _, _, .dic f h r => .dic (hF _ f) (hH _ _ f h) (RepK.mono hF hH r)
  | _, _, .ins f h r => .ins (hF _ f) (hH _ _ f h) (RepF.mono hF hH r)
theorem Reps.mono (hF : ∀ a, F a → F' a) (hH : ∀ a o, F a → H a = some o → H' a = some o) : ∀ {d : List D} {v : List V}, Reps c F H d v → Reps c F' H' d v
  | _, _, .nil => .nil
  | _, _, .cons h r => .cons (Rep.mono hF hH h) (Reps.mono hF hH r)
theorem RepK.mono (hF : ∀ a, F a → F' a) (hH : ∀ a o, F a → H a = some o → H' a = some o) : ∀ {d : List (Key × D)} {v : List (Key × V)}, RepK c F H d v → RepK c F' H' d v
  | _, _, .nil => .nil
  | _, _, .cons h r => .cons (Rep.mono hF hH h) (RepK.mono hF hH r)
theorem RepF.mono (hF : ∀ a, F a → F' a) (hH : ∀ a o, F a → H a = some o → H' a = some o) : ∀ {ns : List Str} {d : List D} {v : List (Str × V)}, RepF c F H ns d v → RepF c F' H' ns d v
  | _, _, _, .nil => .nil
  | _, _, _, .cons h r => .cons (Rep.mono hF hH h) (RepF.mono hF hH r)
end
theorem Reps.length : ∀ {ds : List D} {vs : List V}, Reps c F H ds vs → ds.length = vs.length
  | _, _, .nil => rfl
  | _, _, .cons _ r => congrArg (· + 1) (Reps.length r)
theorem RepK.length : ∀ {ds : List (Key × D)} {vs : List (Key × V)}, RepK c F H ds vs → ds.length = vs.length
  | _, _, .nil => rfl
  | _, _, .cons _ r => congrArg (· + 1) (RepK.length r)
theorem Reps.get : ∀ {ds : List D} {vs : List V} {i : Nat} {d : D}, Reps c F H ds vs → ds[i]? = some d → ∃ v, vs[i]? = some v ∧ Rep c F H d v
  | _, _, _, _, .nil, e => by simp at e
  | _, _, 0, _, .cons h _, e => by simp at e; subst e; exact ⟨_, rfl, h⟩
  | _, _, i + 1, _, .cons _ r, e => by simpa using Reps.get (i := i) r (by simpa using e)
theorem Reps.append : ∀ {ds es : List D} {vs us : List V}, Reps c F H ds vs → Reps c F H es us → Reps c F H (ds ++ es) (vs ++ us)
  | _, _, _, _, .nil, s => s
  | _, _, _, _, .cons h r, s => .cons h (Reps.append r s)
theorem Reps.drop : ∀ {ds : List D} {vs : List V} (n : Nat), Reps c F H ds vs → Reps c F H (ds.drop n) (vs.drop n)
  | _, _, 0, r => r
  | _, _, _ + 1, .nil => .nil
  | _, _, n + 1, .cons _ r => Reps.drop n r
theorem Reps.take : ∀ {ds : List D} {vs : List V} (n : Nat), Reps c F H ds vs → Reps c F H (ds.take n) (vs.take n)
  | _, _, 0, _ => .nil
  | _, _, _ + 1, .nil => .nil
  | _, _, n + 1, .cons h r => .cons h (Reps.take n r)
theorem Reps.cut {ds : List D} {vs : List V} (r : Reps c F H ds vs) (lo hi : Option Int) : Reps c F H (cut ds lo hi) (cutV vs lo hi) := by
  unfold Mi.cut cutV
  rw [r.length]
  exact (r.drop _).take _
theorem Reps.set : ∀ {ds : List D} {vs : List V} {d : D} {v : V} (i : Nat), Reps c F H ds vs → Rep c F H d v → Reps c F H (ds.set i d) (vs.set i v)
  | _, _, _, _, _, .nil, _ => .nil
  | _, _, _, _, 0, .cons _ r, h => .cons h r
  | _, _, _, _, i + 1, .cons g r, h => .cons g (Reps.set i r h)
theorem Reps.erase : ∀ {ds : List D} {vs : List V} (i : Nat), Reps c F H ds vs → Reps c F H (ds.eraseIdx i) (vs.eraseIdx i)
  | _, _, _, .nil => .nil
  | _, _, 0, .cons _ r => r
  | _, _, i + 1, .cons g r => .cons g (Reps.erase i r)
theorem RepK.get : ∀ {ds : List (Key × D)} {vs : List (Key × V)} {k : Key}, RepK c F H ds vs → (∀ d, dget ds k = some d → ∃ v, valV vs k = some v ∧ Rep c F H d v) ∧ (dget ds k = none → valV vs k = none)
  | _, _, k, .nil => ⟨fun d e => by simp [dget] at e, fun _ => rfl⟩
  | _, _, k, .cons (k := k') (d := d) (v := v) (ds := ds) (vs := vs) h r => by
    obtain ⟨r1, r2⟩ := RepK.get (k := k) r
    have e1 : dget ((k', d) :: ds) k = if k' = k then some d else dget ds k := rfl
    rw [e1]
    by_cases e : k' = k
    · rw [if_pos e, valV_pos (p := (k', v)) e]
      exact ⟨fun d' q => by cases q; exact ⟨_, rfl, h⟩, fun q => by cases q⟩
    · rw [if_neg e, valV_neg (p := (k', v)) e]
      exact ⟨r1, r2⟩
theorem RepK.isSome {ds : List (Key × D)} {vs : List (Key × V)} (k : Key) (r : RepK c F H ds vs) : (dget ds k).isSome = (valV vs k).isSome := by
  obtain ⟨r1, r2⟩ := RepK.get (k := k) r
  cases e : dget ds k with
  | none => rw [r2 e]; rfl
  | some d =>
    obtain ⟨v, hv, _⟩ := r1 d e
    rw [hv]; rfl
theorem RepK.snoc {k : Key} {d : D} {v : V} (h : Rep c F H d v) : ∀ {ds : List (Key × D)} {vs : List (Key × V)}, RepK c F H ds vs → RepK c F H (ds ++ [(k, d)]) (vs ++ [(k, v)])
  | _, _, .nil => .cons h .nil
  | _, _, .cons g r => .cons g (RepK.snoc h r)
theorem RepK.mapPut {k : Key} {d : D} {v : V} (h : Rep c F H d v) : ∀ {ds : List (Key × D)} {vs : List (Key × V)}, RepK c F H ds vs →
    RepK c F H (ds.map fun p => if p.1 = k then (p.1, d) else p) (vs.map fun p => if p.1 = k then (p.1, v) else p)
  | _, _, .nil => .nil
  | _, _, .cons (k := k') g r => by
    rw [List.map_cons, List.map_cons]
    by_cases e : k' = k
    · rw [if_pos e, if_pos e]; exact .cons h (RepK.mapPut h r)
    · rw [if_neg e, if_neg e]; exact .cons g (RepK.mapPut h r)
theorem RepK.put {ds : List (Key × D)} {vs : List (Key × V)} {k : Key} {d : D} {v : V} (r : RepK c F H ds vs) (h : Rep c F H d v) : RepK c F H (dput ds k d) (putK vs k v) := by
  unfold dput putK
  rw [valV_any, r.isSome k]
  by_cases e : (valV vs k).isSome = true
  · rw [if_pos e, if_pos e]; exact r.mapPut h
  · rw [if_neg e, if_neg e]; exact r.snoc h
theorem RepF.length : ∀ {ns : List Str} {ds : List D} {vs : List (Str × V)}, RepF c F H ns ds vs → ds.length = vs.length
  | _, _, _, .nil => rfl
  | _, _, _, .cons _ r => congrArg (· + 1) (RepF.length r)
end

/-! ### objects of one name's own -/
section
variable (c : Cn) (F : Addr → Prop) (H : Hp)
/-- fields from place i on; those in sub hold lists of their own, at bs -/
inductive OwnF : List Str → List D → List (Str × V) → Nat → List Nat → List Addr → Prop
  | nil {ns : List Str} {i : Nat} {sub : List Nat} : OwnF ns [] [] i sub []
  | fz {n : Str} {ns : List Str} {d : D} {v : V} {ds : List D} {vs : List (Str × V)} {i : Nat} {sub : List Nat} {bs : List Addr} (o : i ∉ sub) (h : Rep c F H d v) (r : OwnF ns ds vs (i + 1) sub bs) : OwnF (n :: ns) (d :: ds) ((n, v) :: vs) i sub bs
  | ow {n : Str} {ns : List Str} {b : Addr} {es : List D} {us : List V} {ds : List D} {vs : List (Str × V)} {i : Nat} {sub : List Nat} {bs : List Addr} (o : i ∈ sub) (h : H b = some (.lst us)) (q : Reps c F H es us) (r : OwnF ns ds vs (i + 1) sub bs) :
      OwnF (n :: ns) (.lst es :: ds) ((n, .ref b) :: vs) i sub (b :: bs)
inductive Own : D → List Nat → Addr → List Addr → Prop
  | lst {a : Addr} {vs : List V} {ds : List D} (h : H a = some (.lst vs)) (r : Reps c F H ds vs) : Own (.lst ds) [] a []
  | dic {a : Addr} {kvs : List (Key × V)} {ds : List (Key × D)} (h : H a = some (.dK kvs)) (r : RepK c F H ds kvs) : Own (.dic ds) [] a []
  | ins {a dx : Addr} {k : Nat} {fs : List (Str × V)} {ds : List D} {sub : List Nat} {bs : List Addr} (h : H a = some (.ins (c.C k) dx fs)) (r : OwnF c F H (c.fl k) ds fs 0 sub bs) : Own (.ins k ds) sub a bs
/-- the names' values; A: the objects that are their own -/
inductive SRel : List Slot → St → List Addr → Prop
  | nil : SRel [] [] []
  | emp {x : Option V} {fr : List Slot} {σ : St} {A : List Addr} (r : SRel fr σ A) : SRel (.emp :: fr) (x :: σ) A
  | fz {d : D} {v : V} {fr : List Slot} {σ : St} {A : List Addr} (h : Rep c F H d v) (r : SRel fr σ A) : SRel (.fz d :: fr) (some v :: σ) A
  | ow {d : D} {sub : List Nat} {a : Addr} {bs : List Addr} {fr : List Slot} {σ : St} {A : List Addr} (h : Own c F H d sub a bs) (r : SRel fr σ A) : SRel (.ow d sub :: fr) (some (.ref a) :: σ) (a :: (bs ++ A))
end
section
variable {c : Cn} {F F' : Addr → Prop} {H H' : Hp}
theorem OwnF.mono (hF : ∀ a, F a → F' a) (hH : ∀ a o, F a → H a = some o → H' a = some o) {ns : List Str} {ds : List D} {vs : List (Str × V)} {i : Nat} {sub : List Nat} {bs : List Addr} (r : OwnF c F H ns ds vs i sub bs) :
    (∀ a o, a ∈ bs → H a = some o → H' a = some o) → OwnF c F' H' ns ds vs i sub bs := by
  induction r with
  | nil => intro _; exact .nil
  | fz o h _ ih => intro hA; exact .fz o (h.mono hF hH) (ih hA)
  | ow o h q _ ih => intro hA; exact .ow o (hA _ _ List.mem_cons_self h) (q.mono hF hH) (ih fun a o' m => hA a o' (List.mem_cons_of_mem _ m))
theorem Own.mono (hF : ∀ a, F a → F' a) (hH : ∀ a o, F a → H a = some o → H' a = some o) {d : D} {sub : List Nat} {a : Addr} {bs : List Addr} (r : Own c F H d sub a bs)
    (hA : ∀ b o, b ∈ a :: bs → H b = some o → H' b = some o) : Own c F' H' d sub a bs := by
  cases r with
  | lst h r => exact .lst (hA _ _ List.mem_cons_self h) (r.mono hF hH)
  | dic h r => exact .dic (hA _ _ List.mem_cons_self h) (r.mono hF hH)
  | ins h r => exact .ins (hA _ _ List.mem_cons_self h) (r.mono hF hH fun b o m => hA b o (List.mem_cons_of_mem _ m))
theorem SRel.mono (hF : ∀ a, F a → F' a) (hH : ∀ a o, F a → H a = some o → H' a = some o) {fr : List Slot} {σ : St} {A : List Addr} (r : SRel c F H fr σ A) :
    (∀ a o, a ∈ A → H a = some o → H' a = some o) → SRel c F' H' fr σ A := by
  induction r with
  | nil => intro _; exact .nil
  | emp _ ih => intro hA; exact .emp (ih hA)
  | fz h _ ih => intro hA; exact .fz (h.mono hF hH) (ih hA)
  | ow h _ ih =>
    intro hA
    refine .ow (h.mono hF hH fun b o m => hA b o ?_) (ih fun b o m => hA b o ?_)
    · rw [← List.cons_append]; exact List.mem_append_left _ m
    · rw [← List.cons_append]; exact List.mem_append_right _ m
theorem OwnF.dom {ns : List Str} {ds : List D} {vs : List (Str × V)} {i : Nat} {sub : List Nat} {bs : List Addr} (r : OwnF c F H ns ds vs i sub bs) : ∀ b ∈ bs, H b ≠ none := by
  induction r with
  | nil => intro b m; cases m
  | fz _ _ _ ih => exact ih
  | ow _ h _ _ ih =>
    intro b m
    rcases List.mem_cons.mp m with e | m
    · rw [e, h]; exact fun z => by cases z
    · exact ih b m
theorem Own.dom {d : D} {sub : List Nat} {a : Addr} {bs : List Addr} (r : Own c F H d sub a bs) : ∀ b ∈ a :: bs, H b ≠ none := by
  cases r with
  | lst h r => intro b m; rw [List.mem_singleton.mp m, h]; exact fun z => by cases z
  | dic h r => intro b m; rw [List.mem_singleton.mp m, h]; exact fun z => by cases z
  | ins h r =>
    intro b m
    rcases List.mem_cons.mp m with e | m
    · rw [e, h]; exact fun z => by cases z
    · exact r.dom b m
theorem SRel.dom {fr : List Slot} {σ : St} {A : List Addr} (r : SRel c F H fr σ A) : ∀ a ∈ A, H a ≠ none := by
  induction r with
  | nil => intro b m; cases m
  | emp _ ih => exact ih
  | fz _ _ ih => exact ih
  | ow h _ ih =>
    intro b m
    rw [← List.cons_append] at m
    rcases List.mem_append.mp m with m | m
    · exact h.dom b m
    · exact ih b m
theorem SRel.length {fr : List Slot} {σ : St} {A : List Addr} (r : SRel c F H fr σ A) : fr.length = σ.length := by
  induction r with
  | nil => rfl
  | emp _ ih => exact congrArg (· + 1) ih
  | fz _ _ ih => exact congrArg (· + 1) ih
  | ow _ _ ih => exact congrArg (· + 1) ih
theorem SRel.getF {fr : List Slot} {σ : St} {A : List Addr} (r : SRel c F H fr σ A) : ∀ {i : Nat} {d : D}, fr[i]? = some (.fz d) → ∃ v, σ[i]? = some (some v) ∧ Rep c F H d v := by
  induction r with
  | nil => intro i d e; simp at e
  | emp _ ih =>
    intro i d e
    cases i with
    | zero => simp at e
    | succ i => simpa using ih (i := i) (d := d) (by simpa using e)
  | fz h _ ih =>
    intro i d e
    cases i with
    | zero => simp at e; subst e; exact ⟨_, rfl, h⟩
    | succ i => simpa using ih (i := i) (d := d) (by simpa using e)
  | ow _ _ ih =>
    intro i d e
    cases i with
    | zero => simp at e
    | succ i => simpa using ih (i := i) (d := d) (by simpa using e)
/-- a name's own object: apart from all the others' -/
theorem SRel.getO {fr : List Slot} {σ : St} {A : List Addr} (r : SRel c F H fr σ A) : ∀ {i : Nat} {d : D} {sub : List Nat}, fr[i]? = some (.ow d sub) →
    ∃ a bs A1 A2, σ[i]? = some (some (.ref a)) ∧ Own c F H d sub a bs ∧ A = A1 ++ (a :: (bs ++ A2)) ∧
      (∀ x v, (match x with | .emp => True | .fz d' => Rep c F H d' v | .ow _ _ => False) → SRel c F H (fr.set i x) (σ.set i (some v)) (A1 ++ A2)) ∧
      SRel c F H (fr.set i .emp) σ (A1 ++ A2) := by
  induction r with
  | nil => intro i d sub e; simp at e
  | @emp x fr σ A r ih =>
    intro i d sub e
    cases i with
    | zero => simp at e
    | succ i =>
      obtain ⟨a, bs, A1, A2, h1, h2, h3, h4, h5⟩ := ih (i := i) (by simpa using e)
      exact ⟨a, bs, A1, A2, by simpa using h1, h2, h3, fun x v q => by simpa using SRel.emp (h4 x v q), by simpa using SRel.emp h5⟩
  | @fz d0 v0 fr σ A h r ih =>
    intro i d sub e
    cases i with
    | zero => simp at e
    | succ i =>
      obtain ⟨a, bs, A1, A2, h1, h2, h3, h4, h5⟩ := ih (i := i) (by simpa using e)
      exact ⟨a, bs, A1, A2, by simpa using h1, h2, h3, fun x v q => by simpa using SRel.fz h (h4 x v q), by simpa using SRel.fz h h5⟩
  | @ow d0 sub0 a0 bs0 fr σ A h r ih =>
    intro i d sub e
    cases i with
    | zero =>
      simp at e
      obtain ⟨rfl, rfl⟩ := e
      refine ⟨a0, bs0, [], A, rfl, h, rfl, fun x v q => ?_, .emp r⟩
      cases x with
      | emp => exact .emp r
      | fz d' => exact .fz q r
      | ow _ _ => exact q.elim
    | succ i =>
      obtain ⟨a, bs, A1, A2, h1, h2, h3, h4, h5⟩ := ih (i := i) (by simpa using e)
      refine ⟨a, bs, a0 :: (bs0 ++ A1), A2, by simpa using h1, h2, by rw [h3]; simp, fun x v q => ?_, ?_⟩
      · have z := SRel.ow h (h4 x v q)
        simpa [List.append_assoc] using z
      · have z := SRel.ow h h5
        simpa [List.append_assoc] using z
theorem SRel.setF {fr : List Slot} {σ : St} {A : List Addr} (r : SRel c F H fr σ A) : ∀ {i : Nat} {d : D} {v : V}, i < fr.length → Rep c F H d v → ∃ A', SRel c F H (fr.set i (.fz d)) (σ.set i (some v)) A' ∧ A'.Sublist A := by
  induction r with
  | nil => intro i d v e; simp at e
  | @emp x fr σ A r ih =>
    intro i d v e h
    cases i with
    | zero => exact ⟨A, .fz h r, List.Sublist.refl _⟩
    | succ i =>
      obtain ⟨A', h1, h2⟩ := ih (i := i) (by simpa using e) h
      exact ⟨A', .emp h1, h2⟩
  | @fz d0 v0 fr σ A h0 r ih =>
    intro i d v e h
    cases i with
    | zero => exact ⟨A, .fz h r, List.Sublist.refl _⟩
    | succ i =>
      obtain ⟨A', h1, h2⟩ := ih (i := i) (by simpa using e) h
      exact ⟨A', .fz h0 h1, h2⟩
  | @ow d0 sub0 a0 bs0 fr σ A h0 r ih =>
    intro i d v e h
    cases i with
    | zero => exact ⟨A, .fz h r, (List.sublist_append_right _ _).trans (List.sublist_cons_self _ _)⟩
    | succ i =>
      obtain ⟨A', h1, h2⟩ := ih (i := i) (by simpa using e) h
      exact ⟨a0 :: (bs0 ++ A'), .ow h0 h1, (List.Sublist.append (List.Sublist.refl _) h2).cons₂ _⟩
theorem SRel.setE {fr : List Slot} {σ : St} {A : List Addr} (r : SRel c F H fr σ A) : ∀ {i : Nat} (x : Option V), ∃ A', SRel c F H (fr.set i .emp) (σ.set i x) A' ∧ A'.Sublist A := by
  induction r with
  | nil => intro i x; exact ⟨[], .nil, List.Sublist.refl _⟩
  | @emp x0 fr σ A r ih =>
    intro i x
    cases i with
    | zero => exact ⟨A, .emp r, List.Sublist.refl _⟩
    | succ i =>
      obtain ⟨A', h1, h2⟩ := ih (i := i) x
      exact ⟨A', .emp h1, h2⟩
  | @fz d0 v0 fr σ A h0 r ih =>
    intro i x
    cases i with
    | zero => exact ⟨A, .emp r, List.Sublist.refl _⟩
    | succ i =>
      obtain ⟨A', h1, h2⟩ := ih (i := i) x
      exact ⟨A', .fz h0 h1, h2⟩
  | @ow d0 sub0 a0 bs0 fr σ A h0 r ih =>
    intro i x
    cases i with
    | zero => exact ⟨A, .emp r, (List.sublist_append_right _ _).trans (List.sublist_cons_self _ _)⟩
    | succ i =>
      obtain ⟨A', h1, h2⟩ := ih (i := i) x
      exact ⟨a0 :: (bs0 ++ A'), .ow h0 h1, (List.Sublist.append (List.Sublist.refl _) h2).cons₂ _⟩
/-- a name gets an object of its own -/
theorem SRel.setO {fr : List Slot} {σ : St} {A : List Addr} (r : SRel c F H fr σ A) : ∀ {i : Nat} {d : D} {sub : List Nat} {a : Addr} {bs : List Addr}, i < fr.length → Own c F H d sub a bs →
    ∃ A1 A2, SRel c F H (fr.set i (.ow d sub)) (σ.set i (some (.ref a))) (A1 ++ (a :: (bs ++ A2))) ∧ (A1 ++ A2).Sublist A := by
  induction r with
  | nil => intro i d sub a bs e; simp at e
  | @emp x fr σ A r ih =>
    intro i d sub a bs e h
    cases i with
    | zero => exact ⟨[], A, .ow h r, List.Sublist.refl _⟩
    | succ i =>
      obtain ⟨A1, A2, h1, h2⟩ := ih (i := i) (by simpa using e) h
      exact ⟨A1, A2, .emp h1, h2⟩
  | @fz d0 v0 fr σ A h0 r ih =>
    intro i d sub a bs e h
    cases i with
    | zero => exact ⟨[], A, .ow h r, List.Sublist.refl _⟩
    | succ i =>
      obtain ⟨A1, A2, h1, h2⟩ := ih (i := i) (by simpa using e) h
      exact ⟨A1, A2, .fz h0 h1, h2⟩
  | @ow d0 sub0 a0 bs0 fr σ A h0 r ih =>
    intro i d sub a bs e h
    cases i with
    | zero => exact ⟨[], A, .ow h r, (List.sublist_append_right _ _).trans (List.sublist_cons_self _ _)⟩
    | succ i =>
      obtain ⟨A1, A2, h1, h2⟩ := ih (i := i) (by simpa using e) h
      refine ⟨a0 :: (bs0 ++ A1), A2, ?_, ?_⟩
      · have z := SRel.ow h0 h1
        simpa [List.append_assoc] using z
      · have z := (List.Sublist.append (List.Sublist.refl bs0) h2).cons₂ a0
        simpa [List.append_assoc] using z

/-! ### worlds -/
structure Wd where
  F : Addr → Prop
  H : Hp
  A : List Addr
structure SR (c : Cn) (w : Wd) (fr : List Slot) (σ : St) : Prop where
  rel : SRel c w.F w.H fr σ w.A
  nd : w.A.Nodup
  nf : ∀ a ∈ w.A, ¬ w.F a
  fd : ∀ a, w.F a → w.H a ≠ none
/-- what may happen to a world: what the names own may change, the rest stands -/
structure Ext (w w' : Wd) : Prop where
  f : ∀ a, w.F a → w'.F a
  h : ∀ a o, w.H a = some o → a ∉ w.A → w'.H a = some o
  g : ∀ a, w'.F a → w.F a ∨ w.H a = none ∨ a ∈ w.A
  a : ∀ b ∈ w'.A, b ∈ w.A ∨ w.H b = none
  d : ∀ a, w.H a ≠ none → w'.H a ≠ none
theorem Ext.refl (w : Wd) : Ext w w := ⟨fun _ h => h, fun _ _ h _ => h, fun _ h => .inl h, fun _ h => .inl h, fun _ h => h⟩
theorem Ext.trans {w w1 w2 : Wd} (x : Ext w w1) (y : Ext w1 w2) : Ext w w2 where
  f := fun a h => y.f a (x.f a h)
  h := fun a o e n => y.h a o (x.h a o e n) fun m => (x.a a m).elim n fun z => by rw [e] at z; cases z
  g := fun a h => by
    rcases y.g a h with z | z | z
    · exact x.g a z
    · exact .inr (.inl (Classical.byContradiction fun q => x.d a q z))
    · rcases x.a a z with q | q
      · exact .inr (.inr q)
      · exact .inr (.inl q)
  a := fun b m => by
    rcases y.a b m with z | z
    · exact x.a b z
    · exact .inr (Classical.byContradiction fun q => x.d b q z)
  d := fun a h => y.d a (x.d a h)
section
variable {c : Cn} {w w' : Wd} {fr : List Slot} {σ : St}
theorem SR.fH (S : SR c w fr σ) (x : Ext w w') : ∀ a o, w.F a → w.H a = some o → w'.H a = some o := fun a o f e => x.h a o e fun m => S.nf a m f
theorem SR.rep (S : SR c w fr σ) (x : Ext w w') {d : D} {v : V} (r : Rep c w.F w.H d v) : Rep c w'.F w'.H d v := r.mono x.f (S.fH x)
theorem SR.reps (S : SR c w fr σ) (x : Ext w w') {d : List D} {v : List V} (r : Reps c w.F w.H d v) : Reps c w'.F w'.H d v := r.mono x.f (S.fH x)
/-- an object that is nobody's: kept -/
theorem SR.own (S : SR c w fr σ) (x : Ext w w') {d : D} {sub : List Nat} {a : Addr} {bs : List Addr} (r : Own c w.F w.H d sub a bs) (n : ∀ b ∈ a :: bs, b ∉ w.A) : Own c w'.F w'.H d sub a bs :=
  r.mono x.f (S.fH x) fun b o m e => x.h b o e (n b m)
/-- .. and not among what never changes -/
theorem Ext.notF (x : Ext w w') {b : Addr} (h1 : w.H b ≠ none) (h2 : ¬ w.F b) (h3 : b ∉ w.A) : ¬ w'.F b := fun z => by
  rcases x.g b z with q | q | q
  · exact h2 q
  · exact h1 q
  · exact h3 q
theorem Ext.notA (x : Ext w w') {b : Addr} (h1 : w.H b ≠ none) (h3 : b ∉ w.A) : b ∉ w'.A := fun z => by
  rcases x.a b z with q | q
  · exact h3 q
  · exact h1 q
end
/-- what an expression's value is -/
def RR (c : Cn) (w0 w : Wd) (σ : St) : R → V → Prop
  | .fz d, v => Rep c w.F w.H d v
  | .ow d sub, v => ∃ a bs, v = .ref a ∧ Own c w.F w.H d sub a bs ∧ (a :: bs).Nodup ∧ ∀ b ∈ a :: bs, ¬ w.F b ∧ b ∉ w.A ∧ (b ∈ w0.A ∨ w0.H b = none)
  | .bo i, v => σ[i]? = some (some v)
theorem RR.step {c : Cn} {w0 w w' : Wd} {fr : List Slot} {σ : St} (S : SR c w fr σ) (x : Ext w w') {r : R} {v : V} (h : RR c w0 w σ r v) : RR c w0 w' σ r v := by
  cases r with
  | fz d => exact S.rep x h
  | ow d sub =>
    obtain ⟨a, bs, e, o, nd, q⟩ := h
    refine ⟨a, bs, e, S.own x o fun b m => (q b m).2.1, nd, fun b m => ⟨?_, ?_, (q b m).2.2⟩⟩
    · exact x.notF (o.dom b m) (q b m).1 (q b m).2.1
    · exact x.notA (o.dom b m) (q b m).2.1
  | bo i => exact h
theorem RR.weak {c : Cn} {w0 w1 w : Wd} {σ : St} (x : Ext w0 w1) {r : R} {v : V} (h : RR c w1 w σ r v) : RR c w0 w σ r v := by
  cases r with
  | fz d => exact h
  | ow d sub =>
    obtain ⟨a, bs, e, o, nd, q⟩ := h
    refine ⟨a, bs, e, o, nd, fun b m => ⟨(q b m).1, (q b m).2.1, ?_⟩⟩
    rcases (q b m).2.2 with z | z
    · exact x.a b z
    · exact .inr (Classical.byContradiction fun y => x.d b y z)
  | bo i => exact h
end
end Mi

set_option Elab.async false
set_option linter.all false
set_option maxRecDepth 100000
/-! Mi: runs, seen from a world; expressions' readings. -/
namespace Mi
open PySem L2

/-- what is wanted of an exception -/
abbrev XW := Nat → List D → Sta → Wd → St → Prop
section
variable (c : Cn)
def XR (w : Wd) (k : Nat) (vs : List D) (cls : Value) (d : Option Addr) : Prop :=
  cls = .ref (c.X k) ∧ ∃ dx fs, d = some dx ∧ w.F dx ∧ w.H dx = some (.xd fs) ∧ RepF c w.F w.H (c.xf k) vs fs
def wx (W : XW) (σ : St) : XK := fun cls d H => ∃ k vs s w, w.H = H ∧ SR c w s.fr σ ∧ XR c w k vs cls d ∧ W k vs s w σ
def Go (W : XW) (σ : St) {α : Type} (m : M α) (w : Wd) (s : Sta) (A : α → Sta → Wd → Prop) : Prop :=
  match m s with
  | .ok a s' => ∀ w', Ext w w' → SR c w' s'.fr σ → A a s' w'
  | .exc k vs s' => ∀ w', Ext w w' → SR c w' s'.fr σ → W k vs s' w' σ
  | .bad => False
end
section
variable {c : Cn} {W : XW} {σ : St} {α β : Type} {w w0 w1 : Wd} {s s1 : Sta}
/-- w: the world at the beginning, whatever has happened since -/
theorem Go.bind {m : M α} {k : α → M β} {A : β → Sta → Wd → Prop} (h : Go c W σ (m >>= k) w s A) : Go c W σ m w s fun a s1 _ => Go c W σ (k a) w s1 A := by
  have e : (m >>= k) s = (match m s with | .ok a s' => k a s' | .exc c v s' => .exc c v s' | .bad => .bad) := rfl
  unfold Go at h ⊢
  rw [e] at h
  cases q : m s with
  | bad => rw [q] at h; exact h.elim
  | exc k' vs s' => rw [q] at h; exact h
  | ok a s' => rw [q] at h; exact fun _ _ _ => h
theorem Go.imp {m : M α} {A B : α → Sta → Wd → Prop} (h : Go c W σ m w s A) (hq : ∀ a s1 w1, Ext w w1 → SR c w1 s1.fr σ → A a s1 w1 → B a s1 w1) : Go c W σ m w s B := by
  unfold Go at h ⊢
  cases q : m s with
  | bad => rw [q] at h; exact h.elim
  | exc k' vs s' => rw [q] at h; exact h
  | ok a s' => rw [q] at h; exact fun w' x S => hq _ _ _ x S (h w' x S)
theorem Go.up {m : M α} {A : α → Sta → Wd → Prop} (h : Go c W σ m w s A) (x : Ext w w1) : Go c W σ m w1 s A := by
  unfold Go at h ⊢
  cases q : m s with
  | bad => rw [q] at h; exact h.elim
  | exc k' vs s' => rw [q] at h; exact fun w' y S => h w' (x.trans y) S
  | ok a s' => rw [q] at h; exact fun w' y S => h w' (x.trans y) S
theorem Go.of_ok {m : M α} {A : α → Sta → Wd → Prop} {a : α} (h : Go c W σ m w s A) (e : m s = .ok a s1) (x : Ext w w1) (S : SR c w1 s1.fr σ) : A a s1 w1 := by
  unfold Go at h
  rw [e] at h
  exact h w1 x S
theorem Go.of_bad {m : M α} {A : α → Sta → Wd → Prop} (h : Go c W σ m w s A) (e : m s = .bad) : False := by
  unfold Go at h
  rw [e] at h
  exact h
theorem Go.pure {A : α → Sta → Wd → Prop} {a : α} (h : Go c W σ (Pure.pure a) w s A) (x : Ext w w1) (S : SR c w1 s.fr σ) : A a s w1 := Go.of_ok h rfl x S
theorem Go.ok {A : α → Sta → Wd → Prop} {a : α} (h : Go c W σ (M.pure a) w s A) (x : Ext w w1) (S : SR c w1 s.fr σ) : A a s w1 := Go.of_ok h rfl x S
theorem Go.eqM {m m' : M α} {A : α → Sta → Wd → Prop} (h : Go c W σ m w s A) (e : m s = m' s) : Go c W σ m' w s A := by
  unfold Go at h ⊢
  rw [← e]
  exact h
/-- a step that cannot fail otherwise than by being bad, bound -/
theorem Go.optB {o : Option α} {k : α → M β} {A : β → Sta → Wd → Prop} (h : Go c W σ (M.opt o >>= k) w s A) : ∃ a, o = some a ∧ Go c W σ (k a) w s A := by
  cases o with
  | none => exact (h.of_bad rfl).elim
  | some a => exact ⟨a, rfl, h.eqM rfl⟩
theorem Go.pureB {a : α} {k : α → M β} {A : β → Sta → Wd → Prop} (h : Go c W σ (Pure.pure a >>= k) w s A) : Go c W σ (k a) w s A := h.eqM rfl
theorem Go.okB {a : α} {m : M α} {k : α → M β} {A : β → Sta → Wd → Prop} (h : Go c W σ (m >>= k) w s A) (e : m s = .ok a s1) : Go c W σ (k a) w s1 A := by
  have e2 : (m >>= k) s = k a s1 := by
    show (match m s with | .ok a s' => k a s' | .exc c v s' => .exc c v s' | .bad => .bad) = _
    rw [e]
  unfold Go at h ⊢
  rw [e2] at h
  exact h
theorem Go.badB {m : M α} {k : α → M β} {A : β → Sta → Wd → Prop} (h : Go c W σ (m >>= k) w s A) (e : m s = .bad) : False := by
  have e2 : (m >>= k) s = .bad := by
    show (match m s with | .ok a s' => k a s' | .exc c v s' => .exc c v s' | .bad => .bad) = _
    rw [e]
  exact h.of_bad e2
theorem Go.readsB {rs : List R} {k : List D → M β} {A : β → Sta → Wd → Prop} (h : Go c W σ (reads rs >>= k) w s A) : ∃ ds, rdAll s rs = some ds ∧ Go c W σ (k ds) w s A := by
  cases q : rdAll s rs with
  | none => exact (h.badB (by simp [reads, q])).elim
  | some ds => exact ⟨ds, rfl, h.okB (by simp [reads, q])⟩
theorem Go.getB {i : Nat} {k : Slot → M β} {A : β → Sta → Wd → Prop} (h : Go c W σ (getS i >>= k) w s A) : ∃ x, s.fr[i]? = some x ∧ Go c W σ (k x) w s A := by
  cases q : s.fr[i]? with
  | none => exact (h.badB (by simp [getS, q])).elim
  | some ds => exact ⟨ds, rfl, h.okB (by simp [getS, q])⟩
theorem Go.setB {i : Nat} {x : Slot} {k : Unit → M β} {A : β → Sta → Wd → Prop} (h : Go c W σ (setS i x >>= k) w s A) : i < s.fr.length ∧ Go c W σ (k ()) w { s with fr := s.fr.set i x } A := by
  by_cases q : i < s.fr.length
  · exact ⟨q, h.okB (by simp [setS, q])⟩
  · exact (h.badB (by simp [setS, q])).elim
end

/-! ### growing worlds -/
structure Grow (w w' : Wd) : Prop where
  a : w'.A = w.A
  f : ∀ a, w.F a → w'.F a
  h : ∀ a o, w.H a = some o → w'.H a = some o
  g : ∀ a, w'.F a → w.F a ∨ w.H a = none
  d : ∀ a, w'.F a → w'.H a ≠ none
section
variable {c : Cn} {w w' w1 : Wd} {fr : List Slot} {σ : St}
theorem Grow.refl (S : SR c w fr σ) : Grow w w := ⟨rfl, fun _ h => h, fun _ _ h => h, fun _ h => .inl h, S.fd⟩
theorem Grow.dom (g : Grow w w') : ∀ a, w.H a ≠ none → w'.H a ≠ none := fun a h => by
  cases q : w.H a with
  | none => exact absurd q h
  | some o => rw [g.h a o q]; exact fun z => by cases z
theorem Grow.ext (g : Grow w w') : Ext w w' := ⟨g.f, fun a o e _ => g.h a o e, fun a h => (g.g a h).elim .inl fun z => .inr (.inl z), fun b m => .inl (by rw [← g.a]; exact m), g.dom⟩
theorem Grow.trans (g : Grow w w') (k : Grow w' w1) : Grow w w1 where
  a := k.a.trans g.a
  f := fun a h => k.f a (g.f a h)
  h := fun a o e => k.h a o (g.h a o e)
  g := fun a h => by
    rcases k.g a h with z | z
    · exact g.g a z
    · exact .inr (Classical.byContradiction fun q => g.dom a q z)
  d := k.d
theorem Grow.sr (g : Grow w w') (S : SR c w fr σ) : SR c w' fr σ where
  rel := by rw [g.a]; exact S.rel.mono g.f (fun a o _ e => g.h a o e) fun a o _ e => g.h a o e
  nd := by rw [g.a]; exact S.nd
  nf := fun a m z => by
    rw [g.a] at m
    rcases g.g a z with q | q
    · exact S.nf a m q
    · exact S.rel.dom a m q
  fd := g.d
/-- a new object that never changes -/
def Wd.frz (w : Wd) (p : Addr) (o : HO) : Wd := ⟨fun a => w.F a ∨ a = p, upd w.H p o, w.A⟩
/-- a new object, nobody's as yet -/
def Wd.new (w : Wd) (p : Addr) (o : HO) : Wd := ⟨w.F, upd w.H p o, w.A⟩
theorem Grow.frz (S : SR c w fr σ) {p : Addr} {o : HO} (h : w.H p = none) : Grow w (w.frz p o) where
  a := rfl
  f := fun a h => .inl h
  h := fun a o e => by
    show upd w.H p _ a = _
    rw [upd_ne (ne_of_none e h)]
    exact e
  g := fun a k => by
    rcases k with k | k
    · exact .inl k
    · exact .inr (by rw [k]; exact h)
  d := fun a k => by
    show upd w.H p _ a ≠ none
    by_cases e : a = p
    · subst e; rw [upd_same]; exact fun z => by cases z
    · rw [upd_ne e]
      rcases k with k | k
      · exact S.fd a k
      · exact absurd k e
theorem Grow.new (S : SR c w fr σ) {p : Addr} {o : HO} (h : w.H p = none) : Grow w (w.new p o) where
  a := rfl
  f := fun a h => h
  h := fun a o e => by
    show upd w.H p _ a = _
    rw [upd_ne (ne_of_none e h)]
    exact e
  g := fun a k => .inl k
  d := fun a k => by
    show upd w.H p _ a ≠ none
    by_cases e : a = p
    · subst e; rw [upd_same]; exact fun z => by cases z
    · rw [upd_ne e]; exact S.fd a k
theorem Grow.rep (g : Grow w w') {d : D} {v : V} (r : Rep c w.F w.H d v) : Rep c w'.F w'.H d v := r.mono g.f fun a o _ e => g.h a o e
theorem Grow.reps (g : Grow w w') {d : List D} {v : List V} (r : Reps c w.F w.H d v) : Reps c w'.F w'.H d v := r.mono g.f fun a o _ e => g.h a o e
theorem Grow.repK (g : Grow w w') {d : List (Key × D)} {v : List (Key × V)} (r : RepK c w.F w.H d v) : RepK c w'.F w'.H d v := r.mono g.f fun a o _ e => g.h a o e
/-- a world with an object frozen in it -/
def Wd.keep (w : Wd) (bs : List Addr) : Wd := ⟨fun a => w.F a ∨ a ∈ bs, w.H, w.A⟩
end

/-- freezing what is nobody's -/
structure Free (c : Cn) (w : Wd) (bs : List Addr) : Prop where
  f : ∀ b ∈ bs, ¬ w.F b ∧ b ∉ w.A
  d : ∀ b ∈ bs, w.H b ≠ none
section
variable {c : Cn} {w w' w0 : Wd} {fr : List Slot} {σ : St}
theorem SR.keep (S : SR c w fr σ) {bs : List Addr} (h : Free c w bs) : SR c (w.keep bs) fr σ where
  rel := S.rel.mono (fun a h => .inl h) (fun a o _ e => e) fun a o _ e => e
  nd := S.nd
  nf := fun a m z => z.elim (S.nf a m) fun q => (h.f a q).2 m
  fd := fun a z => z.elim (S.fd a) fun q => h.d a q
/-- .. seen from a world in which it was not yet, or was a name's own -/
theorem Ext.keep (x : Ext w0 w) {bs : List Addr} (h : ∀ b ∈ bs, b ∈ w0.A ∨ w0.H b = none) : Ext w0 (w.keep bs) where
  f := fun a h => .inl (x.f a h)
  h := x.h
  g := fun a z => z.elim (x.g a) fun q => (h a q).elim (fun m => .inr (.inr m)) fun n => .inr (.inl n)
  a := x.a
  d := x.d
theorem Rep.keep {d : D} {v : V} {bs : List Addr} (r : Rep c w.F w.H d v) : Rep c (w.keep bs).F (w.keep bs).H d v := r.mono (fun a h => .inl h) fun a o _ e => e
theorem Own.keep {d : D} {a : Addr} {bs : List Addr} (o : Own c w.F w.H d [] a bs) : bs = [] ∧ Rep c (w.keep [a]).F (w.keep [a]).H d (.ref a) := by
  have nil : ∀ {ns ds vs i sub bs}, OwnF c w.F w.H ns ds vs i sub bs → ([] : List Nat) = sub → bs = [] ∧ RepF c w.F w.H ns ds vs := by
    intro ns ds vs i sub bs h e
    induction h with
    | nil => exact ⟨rfl, .nil⟩
    | fz _ h _ ih => obtain ⟨a, b⟩ := ih e; exact ⟨a, .cons h b⟩
    | ow o _ _ _ _ => rw [← e] at o; cases o
  have hF : ∀ b, w.F b → (w.keep [a]).F b := fun b h => .inl h
  have hH : ∀ b o, w.F b → w.H b = some o → (w.keep [a]).H b = some o := fun b o _ e => e
  have ha : (w.keep [a]).F a := .inr List.mem_cons_self
  cases o with
  | lst h r => exact ⟨rfl, .lst ha h (r.mono hF hH)⟩
  | dic h r => exact ⟨rfl, .dic ha h (r.mono hF hH)⟩
  | ins h r =>
    obtain ⟨e, r⟩ := nil r rfl
    exact ⟨e, .ins ha h (r.mono hF hH)⟩
end

/-- what can be read of a value: frozen, or somebody's own -/
def WR (c : Cn) (w : Wd) (d : D) (v : V) : Prop := Rep c w.F w.H d v ∨ ∃ sub a bs, v = .ref a ∧ Own c w.F w.H d sub a bs
section
variable {c : Cn} {w : Wd} {d : D} {v : V} {ds : List D} {kvs : List (Key × D)}
theorem WR.non (h : WR c w .non v) : v = .non := by
  rcases h with h | ⟨_, _, _, _, h⟩ <;> cases h
  rfl
theorem WR.bl {b : Bool} (h : WR c w (.bl b) v) : v = .bl b := by
  rcases h with h | ⟨_, _, _, _, h⟩ <;> cases h
  rfl
theorem WR.int {i : Int} (h : WR c w (.int i) v) : v = .int i := by
  rcases h with h | ⟨_, _, _, _, h⟩ <;> cases h
  rfl
theorem WR.str {i : Str} (h : WR c w (.str i) v) : v = .str i := by
  rcases h with h | ⟨_, _, _, _, h⟩ <;> cases h
  rfl
theorem WR.byt {i : Array UInt8} (h : WR c w (.byt i) v) : v = .byt i := by
  rcases h with h | ⟨_, _, _, _, h⟩ <;> cases h
  rfl
theorem WR.tup (h : WR c w (.tup ds) v) : ∃ a o vs, v = .ref a ∧ w.F a ∧ w.H a = some (.frz o (.tup vs)) ∧ o.dict = none ∧ Reps c w.F w.H ds vs := by
  rcases h with h | ⟨_, _, _, _, h⟩
  · cases h with
    | tup f h n r => exact ⟨_, _, _, rfl, f, h, n, r⟩
  · cases h
theorem sqT {K : PySem.W.Frag} {H : Hp} {a : Addr} {o : Obj} {vs : List V} (h : H a = some (.frz o (.tup vs))) : SqT K H a vs := .inl (.inr ⟨o, h⟩)
theorem WR.lst (h : WR c w (.lst ds) v) : ∃ a vs, v = .ref a ∧ w.H a = some (.lst vs) ∧ Reps c w.F w.H ds vs := by
  rcases h with h | ⟨_, _, _, e, h⟩
  · cases h with
    | lst f h r => exact ⟨_, _, rfl, h, r⟩
  · cases h with
    | lst h r => exact ⟨_, _, e, h, r⟩
theorem WR.dic (h : WR c w (.dic kvs) v) : ∃ a vs, v = .ref a ∧ w.H a = some (.dK vs) ∧ RepK c w.F w.H kvs vs := by
  rcases h with h | ⟨_, _, _, e, h⟩
  · cases h with
    | dic f h r => exact ⟨_, _, rfl, h, r⟩
  · cases h with
    | dic h r => exact ⟨_, _, e, h, r⟩
theorem WR.scr {ns : List Int} (h : WR c w (.scr ns) v) : ∃ a, v = .ref a ∧ SqL c.K w.H a (ns.map .int) := by
  rcases h with h | ⟨_, _, _, _, h⟩
  · cases h with
    | scr f h => exact ⟨_, rfl, .inl h⟩
    | scrK h => exact ⟨_, rfl, h _⟩
  · cases h
theorem WR.of (h : Rep c w.F w.H d v) : WR c w d v := .inl h
theorem RR.wr {w0 : Wd} {s : Sta} {σ : St} {r : R} (S : SR c w s.fr σ) (h : RR c w0 w σ r v) (e : rdR s r = some d) : WR c w d v := by
  cases r with
  | fz d' => cases e; exact .inl h
  | ow d' sub => cases e; obtain ⟨a, bs, e, o, _⟩ := h; exact .inr ⟨sub, a, bs, e, o⟩
  | bo i =>
    simp only [rdR] at e
    split at e
    · rename_i d' sub q
      cases e
      obtain ⟨a, bs, _, _, h1, h2, _⟩ := S.rel.getO q
      have h : σ[i]? = some (some v) := h
      rw [h1] at h
      cases h
      exact .inr ⟨sub, a, bs, rfl, h2⟩
    · cases e
end

/-! ### what an operation on data makes -/
def PB (c : Cn) (w : Wd) (Q : VK) : BR → Prop
  | .fz d => ∀ w' v, Grow w w' → Rep c w'.F w'.H d v → Q v w'.H
  | .ow d => ∀ w' a, Grow w w' → Own c w'.F w'.H d [] a [] → w.H a = none → ¬ w'.F a → Q (.ref a) w'.H
  | .bad => False
section
variable {c : Cn} {W : XW} {σ : St} {w w0 : Wd} {s : Sta} {Q : VK}
theorem PB.of {br : BR} (x : Ext w0 w) (S : SR c w s.fr σ) (h : Go c W σ (ofBR br) w0 s fun r s' w' => ∀ v, RR c w0 w' σ r v → Q v w'.H) : PB c w Q br := by
  cases br with
  | bad => exact (h.of_bad rfl).elim
  | fz d =>
    intro w' v g r
    exact Go.of_ok h (a := R.fz d) (s1 := s) rfl (x.trans g.ext) (g.sr S) v r
  | ow d =>
    intro w' a g o n f
    refine Go.of_ok h (a := R.ow d []) (s1 := s) rfl (x.trans g.ext) (g.sr S) _ ⟨a, [], rfl, o, by simp, fun b m => ?_⟩
    rw [List.mem_singleton.mp m]
    refine ⟨f, fun z => ?_, .inr (Classical.byContradiction fun q => x.d a q n)⟩
    rw [g.a] at z
    exact S.rel.dom a z n
/-- it is a scalar -/
theorem PB.sc {d : D} {v : V} {fr : List Slot} (S : SR c w fr σ) (h : PB c w Q (.fz d)) (r : Rep c w.F w.H d v) : Q v w.H := h w v (Grow.refl S) r
theorem PB.bl {b : Option Bool} {fr : List Slot} (S : SR c w fr σ) (h : PB c w Q (.b b)) : ∃ k, b = some k ∧ Q (.bl k) w.H := by
  cases b with
  | none => exact h.elim
  | some k => exact ⟨k, rfl, h.sc S (.bl k)⟩
theorem PB.o {d : Option D} (h : PB c w Q (.o d)) : ∃ x, d = some x ∧ PB c w Q (.fz x) := by
  cases d with
  | none => exact h.elim
  | some k => exact ⟨k, rfl, h⟩
/-- a new list, dict -/
theorem PB.newL {ds : List D} {vs : List V} {fr : List Slot} (S : SR c w fr σ) (h : PB c w Q (.ow (.lst ds))) (r : Reps c w.F w.H ds vs) : ∀ p, w.H p = none → Q (.ref p) (upd w.H p (.lst vs)) := fun p n =>
  h (w.new p (.lst vs)) p (Grow.new S n) (.lst upd_same ((Grow.new S n).reps r)) n fun z => S.fd p z n
theorem PB.newD {ds : List (Key × D)} {vs : List (Key × V)} {fr : List Slot} (S : SR c w fr σ) (h : PB c w Q (.ow (.dic ds))) (r : RepK c w.F w.H ds vs) : ∀ p, w.H p = none → Q (.ref p) (upd w.H p (.dK vs)) := fun p n =>
  h (w.new p (.dK vs)) p (Grow.new S n) (.dic upd_same ((Grow.new S n).repK r)) n fun z => S.fd p z n
/-- a new tuple -/
theorem PB.newT {ds : List D} {vs : List V} {fr : List Slot} (S : SR c w fr σ) (h : PB c w Q (.fz (.tup ds))) (r : Reps c w.F w.H ds vs) : ∀ p o, o.dict = none → w.H p = none → Q (.ref p) (upd w.H p (.frz o (.tup vs))) := fun p o no n =>
  h (w.frz p (.frz o (.tup vs))) _ (Grow.frz S n) (.tup (.inr rfl) upd_same no ((Grow.frz S n).reps r))
end

/-! ### readings -/
section
variable (c : Cn) (W : XW)
def tE (m : M R) : TE := fun σ H Q => ∃ w s, w.H = H ∧ SR c w s.fr σ ∧ Go c W σ m w s fun r s' w' => ∀ v, RR c w w' σ r v → Q v w'.H
/-- a list of values -/
inductive RRs (w0 w : Wd) (σ : St) : List R → List V → Prop
  | nil : RRs w0 w σ [] []
  | cons {r : R} {v : V} {rs : List R} {vs : List V} (h : RR c w0 w σ r v) (t : RRs w0 w σ rs vs) : RRs w0 w σ (r :: rs) (v :: vs)
def tA (m : M (List R)) : TA := fun σ H Q => ∃ w s, w.H = H ∧ SR c w s.fr σ ∧ Go c W σ m w s fun rs s' w' => ∀ vs, RRs c w w' σ rs vs → Q vs w'.H
def tT (m : M Bool) : TT := fun σ H Q => ∃ w s, w.H = H ∧ SR c w s.fr σ ∧ Go c W σ m w s fun b s' w' => Q b w'.H
end
section
variable {c : Cn} {W : XW} {σ : St} {β : Type} {w w0 w1 : Wd} {s s1 : Sta} {A : β → Sta → Wd → Prop} {Q : VK} {H : Hp} {X : Cx} {e : Expr}
theorem RRs.step {fr : List Slot} (S : SR c w fr σ) (x : Ext w w1) {rs : List R} {vs : List V} (h : RRs c w0 w σ rs vs) : RRs c w0 w1 σ rs vs := by
  induction h with
  | nil => exact .nil
  | cons h _ ih => exact .cons (h.step S x) ih
theorem RRs.weak (x : Ext w0 w1) {rs : List R} {vs : List V} (h : RRs c w1 w σ rs vs) : RRs c w0 w σ rs vs := by
  induction h with
  | nil => exact .nil
  | cons h _ ih => exact .cons (h.weak x) ih
theorem tE.bind {m : M R} {k : R → M β} (S : SR c w s.fr σ) (h : Go c W σ (m >>= k) w s A)
    (hq : ∀ r s1 w1 v, Ext w w1 → SR c w1 s1.fr σ → RR c w w1 σ r v → Go c W σ (k r) w s1 A → Q v w1.H) : tE c W m σ w.H Q :=
  ⟨w, s, rfl, S, h.bind.imp fun r s1 w1 x S1 g v q => hq r s1 w1 v x S1 q g⟩
theorem tE.all {m : M R} (S : SR c w s.fr σ) {A : R → Sta → Wd → Prop} (h : Go c W σ m w s A)
    (hq : ∀ r s1 w1 v, Ext w w1 → SR c w1 s1.fr σ → RR c w w1 σ r v → A r s1 w1 → Q v w1.H) : tE c W m σ w.H Q :=
  ⟨w, s, rfl, S, h.imp fun r s1 w1 x S1 g v q => hq r s1 w1 v x S1 q g⟩
theorem tA.bind {m : M (List R)} {k : List R → M β} {Q : List V → Hp → Prop} (S : SR c w s.fr σ) (h : Go c W σ (m >>= k) w s A)
    (hq : ∀ r s1 w1 v, Ext w w1 → SR c w1 s1.fr σ → RRs c w w1 σ r v → Go c W σ (k r) w s1 A → Q v w1.H) : tA c W m σ w.H Q :=
  ⟨w, s, rfl, S, h.bind.imp fun r s1 w1 x S1 g v q => hq r s1 w1 v x S1 q g⟩
theorem tT.bind {m : M Bool} {k : Bool → M β} {Q : Bool → Hp → Prop} (S : SR c w s.fr σ) (h : Go c W σ (m >>= k) w s A)
    (hq : ∀ b s1 w1, Ext w w1 → SR c w1 s1.fr σ → Go c W σ (k b) w s1 A → Q b w1.H) : tT c W m σ w.H Q :=
  ⟨w, s, rfl, S, h.bind.imp fun b s1 w1 x S1 g => hq b s1 w1 x S1 g⟩
theorem _root_.L2.PE.imp {t t' : TE} (h : PE X e t) (i : ∀ σ H Q, t' σ H Q → t σ H Q) : PE X e t' := ⟨fun pins s σ H Q I q => h.run pins s σ H Q I (i _ _ _ q)⟩
theorem _root_.L2.PT.imp {t t' : TT} (h : PT X e t) (i : ∀ σ H Q, t' σ H Q → t σ H Q) : PT X e t' := ⟨fun pins s σ H Q I q => h.run pins s σ H Q I (i _ _ _ q)⟩
theorem _root_.L2.PW.imp {t t' : TT} (h : PW X e t) (i : ∀ σ H Q, t' σ H Q → t σ H Q) : PW X e t' := ⟨fun wh pins s σ H Q I q => h.run wh pins s σ H Q I (i _ _ _ q)⟩
theorem _root_.L2.PA.imp {es : List Expr} {t t' : TA} (h : PA X es t) (i : ∀ σ H Q, t' σ H Q → t σ H Q) : PA X es t' := ⟨fun pos pins s σ H Q I q => h.run pos pins s σ H Q I (i _ _ _ q)⟩
theorem _root_.L2.PS.imp {st : Stmt} {t t' : TS} (h : PS X st t) (i : ∀ D σ H, t' D σ H → t D σ H) : PS X st t' := ⟨fun pins s σ H D I q => h.run pins s σ H D I (i _ _ _ q)⟩
theorem _root_.L2.PSs.imp {st : List Stmt} {t t' : TS} (h : PSs X st t) (i : ∀ D σ H, t' D σ H → t D σ H) : PSs X st t' := ⟨fun pins s σ H D I q => h.run pins s σ H D I (i _ _ _ q)⟩
end

/-! ### what is kept -/
section
variable {c : Cn} {w w' w0 : Wd} {s : Sta} {σ : St}
/-- values that are kept: frozen from here on -/
theorem RRs.kept (x : Ext w0 w) (S : SR c w s.fr σ) : ∀ {rs : List R} {vs : List V} {ds : List D}, RRs c w0 w σ rs vs → keepAll rs = some ds →
    ∃ bs, (∀ b ∈ bs, b ∈ w0.A ∨ w0.H b = none) ∧ Free c w bs ∧ Reps c (w.keep bs).F (w.keep bs).H ds vs := by
  intro rs vs ds h
  induction h generalizing ds with
  | nil => intro e; cases e; exact ⟨[], fun b m => (by cases m), ⟨fun b m => (by cases m), fun b m => (by cases m)⟩, .nil⟩
  | @cons r v rs vs h t ih =>
    intro e
    simp only [keepAll, Option.bind_eq_some_iff, Option.map_eq_some_iff] at e
    obtain ⟨d, e1, ds', e2, rfl⟩ := e
    obtain ⟨bs, h1, h2, h3⟩ := ih e2
    have hF : ∀ a b, (w.keep bs).F b → (w.keep (a ++ bs)).F b := fun a b z => z.elim .inl fun q => .inr (List.mem_append_right _ q)
    have hF' : ∀ a b, (w.keep a).F b → (w.keep (a ++ bs)).F b := fun a b z => z.elim .inl fun q => .inr (List.mem_append_left _ q)
    cases r with
    | fz d' =>
      cases e1
      exact ⟨bs, h1, h2, .cons (Rep.keep h) h3⟩
    | ow d' sub =>
      cases sub with
      | cons _ _ => cases e1
      | nil =>
        cases e1
        obtain ⟨a, as, e, o, nd, q⟩ := h
        obtain ⟨rfl, r⟩ := o.keep
        subst e
        have dm := o.dom
        refine ⟨[a] ++ bs, fun b m => ?_, ⟨fun b m => ?_, fun b m => ?_⟩, .cons (r.mono (hF' [a]) fun _ _ _ e => e) (h3.mono (hF [a]) fun _ _ _ e => e)⟩
        · rcases List.mem_append.mp m with m | m
          · exact (q b m).2.2
          · exact h1 b m
        · rcases List.mem_append.mp m with m | m
          · exact ⟨(q b m).1, (q b m).2.1⟩
          · exact h2.f b m
        · rcases List.mem_append.mp m with m | m
          · exact dm b m
          · exact h2.d b m
    | bo i => cases e1
theorem RR.kept (x : Ext w0 w) (S : SR c w s.fr σ) {r : R} {v : V} {d : D} (h : RR c w0 w σ r v) (e : keepR r = some d) :
    ∃ bs, (∀ b ∈ bs, b ∈ w0.A ∨ w0.H b = none) ∧ Free c w bs ∧ Rep c (w.keep bs).F (w.keep bs).H d v := by
  obtain ⟨bs, h1, h2, h3⟩ := RRs.kept x S (.cons h .nil) (ds := [d]) (by simp [keepAll, e])
  cases h3 with
  | cons h3 _ => exact ⟨bs, h1, h2, h3⟩
end
end Mi

set_option Elab.async false
set_option linter.all false
set_option maxRecDepth 100000
/-! Mi: operations on values. -/
namespace Mi
open PySem L2

section
variable {c : Cn} {W : XW} {g : G} {σ : St} {H : Hp} {Q : VK} {α β γ : Type} {w w0 : Wd} {s : Sta}
theorem Go.assoc {m : M α} {k : α → M β} {l : β → M γ} {A : γ → Sta → Wd → Prop} (h : Go c W σ ((m >>= k) >>= l) w s A) : Go c W σ (m >>= fun a => k a >>= l) w s A := h.eqM (by
  show M.bind (M.bind m k) l s = M.bind m (fun a => M.bind (k a) l) s
  unfold M.bind
  cases m s <;> rfl)
theorem Go.eqF {m m' : M α} {A : α → Sta → Wd → Prop} (h : Go c W σ m w s A) (e : m = m') : Go c W σ m' w s A := by rw [← e]; exact h

theorem rdAll1 {s : Sta} {r : R} {ds : List D} (e : rdAll s [r] = some ds) : ∃ d, ds = [d] ∧ rdR s r = some d := by
  simp only [rdAll, Option.bind_eq_some_iff, Option.map_eq_some_iff] at e
  obtain ⟨d, e1, _, e2, rfl⟩ := e
  cases e2
  exact ⟨d, rfl, e1⟩
theorem rdAll2 {s : Sta} {r q : R} {ds : List D} (e : rdAll s [r, q] = some ds) : ∃ d d', ds = [d, d'] ∧ rdR s r = some d ∧ rdR s q = some d' := by
  simp only [rdAll, Option.bind_eq_some_iff, Option.map_eq_some_iff] at e
  obtain ⟨d, e1, _, ⟨d', e2, _, e3, rfl⟩, rfl⟩ := e
  cases e3
  exact ⟨d, d', rfl, e1, e2⟩
theorem rdAll3 {s : Sta} {r q p : R} {ds : List D} (e : rdAll s [r, q, p] = some ds) : ∃ d d' d'', ds = [d, d', d''] ∧ rdR s r = some d ∧ rdR s q = some d' ∧ rdR s p = some d'' := by
  simp only [rdAll, Option.bind_eq_some_iff, Option.map_eq_some_iff] at e
  obtain ⟨d, e1, _, ⟨d', e2, _, ⟨d'', e3, _, e4, rfl⟩, rfl⟩, rfl⟩ := e
  cases e4
  exact ⟨d, d', d'', rfl, e1, e2, e3⟩

/-- an operation on one value -/
def B1 (c : Cn) (b : BI) (r : V → Hp → VK → Prop) : Prop := ∀ (w : Wd) (s : Sta) (σ : St) (d : D) (v : V) (Q : VK), SR c w s.fr σ → WR c w d v → PB c w Q (evBI b [d]) → r v w.H Q
def B2 (c : Cn) (b : BI) (r : R2) : Prop := ∀ (w : Wd) (s : Sta) (σ : St) (d e : D) (v u : V) (Q : VK), SR c w s.fr σ → WR c w d v → WR c w e u → PB c w Q (evBI b [d, e]) → r v u w.H Q
theorem bi1 {b : BI} {ce : CE} {r : V → Hp → VK → Prop} (hb : B1 c b r) (h : tE c W (evE g (.bi b (.cons ce .nil))) σ H Q) : tUn r (tE c W (evE g ce)) σ H Q := by
  obtain ⟨w, s, rfl, S, h⟩ := h
  unfold evE evA at h
  refine tE.bind S h.assoc fun r1 s1 w1 v x S1 R1 G1 => ?_
  have G2 : Go c W σ (reads [r1] >>= fun ds => ofBR (evBI b ds)) w s1 _ := G1.eqM rfl
  obtain ⟨ds, e, G3⟩ := G2.readsB
  obtain ⟨d, rfl, e1⟩ := rdAll1 e
  exact hb w1 s1 σ d v Q S1 (R1.wr S1 e1) (PB.of x S1 G3)
theorem bi2 {b : BI} {ca cb : CE} {r : R2} (hb : B2 c b r) (h : tE c W (evE g (.bi b (.cons ca (.cons cb .nil)))) σ H Q) : tOp r (tE c W (evE g ca)) (tE c W (evE g cb)) σ H Q := by
  obtain ⟨w, s, rfl, S, h⟩ := h
  unfold evE evA at h
  refine tE.bind S h.assoc fun r1 s1 w1 v x S1 R1 G1 => ?_
  have G2 : Go c W σ (evE g cb >>= fun y => reads [r1, y] >>= fun ds => ofBR (evBI b ds)) w s1 _ := G1.eqM (by
    unfold evA
    show M.bind (M.bind (M.bind (evE g cb) _) _) _ s1 = M.bind _ _ s1
    unfold M.bind
    cases evE g cb s1 <;> rfl)
  refine tE.bind S1 (G2.up x) fun r2 s2 w2 u y S2 R2 G3 => ?_
  obtain ⟨ds, e, G4⟩ := G3.readsB
  obtain ⟨d, d', rfl, e1, e2⟩ := rdAll2 e
  refine hb w2 s2 σ d d' v u Q S2 ((R1.step S1 y).wr S2 e1) (R2.wr S2 e2) (PB.of y S2 (G4.imp fun r s' w' x' S' q v' rr => q v' (rr.weak x)))
end


/-! ### the answers of the built-in operations -/
theorem lim_eq : LIM = sizeLine := by rw [sizeLine_eq]
section
variable {c : Cn} {X : Cx}
abbrev rIxA (K : PySem.W.Frag) : R2 := fun x y H Q => rIx K x y H Q ∨ ∃ a v, x = .ref a ∧ DGet H a y (some v) ∧ Q v H
theorem ix_dict (hu : X.A.units + 1 < cLine) : IxR X (fun x y H Q => ∃ a v, x = .ref a ∧ DGet H a y (some v) ∧ Q v H) := by
  intro value slice pins s σ H x y v u Q I rx ry h hs
  obtain ⟨a, z, rfl, g, q⟩ := h
  cases rx
  have hT := dict_typeIs I g
  exact PyProof.Rows.tail_any hT PySem.F.slot_dict_getitem.lookup (d_getItem hu I g ry fun w' s3 I3 rw' => ⟨z, H, I3, rw', q⟩) hs
theorem ix_any (hu : X.A.units + 1 < cLine) : IxR X (rIxA X.K) := ix_seq.or (ix_dict hu)
theorem b_idx : B2 c .idx (rIxA c.K) := by
  intro w s σ d e v u Q S h1 h2 p
  cases d with
  | tup xs =>
    cases e with
    | int i =>
      obtain ⟨a, o, vs, rfl, _, ha, _, r⟩ := h1.tup
      rw [h2.int]
      obtain ⟨x, ex, p⟩ := PB.o (d := atI xs i) p
      unfold atI at ex
      rw [Option.bind_eq_some_iff] at ex
      obtain ⟨j, e1, e2⟩ := ex
      obtain ⟨y, e3, ry⟩ := r.get e2
      exact .inl (.inr (.inl ⟨a, vs, i, y, rfl, rfl, sqT ha, by unfold atI; rw [← r.length, e1]; exact e3, p.sc S ry⟩))
    | _ => exact p.elim
  | lst xs =>
    cases e with
    | int i =>
      obtain ⟨a, vs, rfl, ha, r⟩ := h1.lst
      rw [h2.int]
      obtain ⟨x, ex, p⟩ := PB.o (d := atI xs i) p
      unfold atI at ex
      rw [Option.bind_eq_some_iff] at ex
      obtain ⟨j, e1, e2⟩ := ex
      obtain ⟨y, e3, ry⟩ := r.get e2
      exact .inl (.inl ⟨a, vs, i, y, rfl, rfl, SqL.of ha, by unfold atI; rw [← r.length, e1]; exact e3, p.sc S ry⟩)
    | _ => exact p.elim
  | scr ns =>
    cases e with
    | int i =>
      obtain ⟨a, rfl, ha⟩ := h1.scr
      rw [h2.int]
      obtain ⟨x, ex, p⟩ := PB.o (d := (atI ns i).map .int) p
      rw [Option.map_eq_some_iff] at ex
      obtain ⟨j, e1, rfl⟩ := ex
      refine .inl (.inl ⟨a, _, i, .int j, rfl, rfl, ha, ?_, p.sc S (.int j)⟩)
      unfold atI at e1 ⊢
      rw [List.length_map]
      rw [Option.bind_eq_some_iff] at e1 ⊢
      obtain ⟨k, e1, e2⟩ := e1
      exact ⟨k, e1, by rw [List.getElem?_map, e2]; rfl⟩
    | _ => exact p.elim
  | str z =>
    cases e with
    | int i =>
      rw [h1.str, h2.int]
      have p : PB c w Q (if z.length ≤ LIM then .o ((atI z.cps.toList i).map fun c => .str ⟨#[c]⟩) else .bad) := p
      by_cases hz : z.length ≤ LIM
      · rw [if_pos hz] at p
        obtain ⟨x, ex, p⟩ := PB.o p
        rw [Option.map_eq_some_iff] at ex
        obtain ⟨j, e1, rfl⟩ := ex
        exact .inl (.inr (.inr ⟨z, i, j, rfl, rfl, by rw [← lim_eq]; exact hz, e1, p.sc S (.str _)⟩))
      · rw [if_neg hz] at p; exact p.elim
    | _ => exact p.elim
  | dic kvs =>
    obtain ⟨a, vs, rfl, ha, r⟩ := h1.dic
    have p : PB c w Q (.o ((keyOf e).bind (dget kvs))) := p
    obtain ⟨x, ex, p⟩ := PB.o p
    rw [Option.bind_eq_some_iff] at ex
    obtain ⟨k, e1, e2⟩ := ex
    obtain ⟨y, e3, ry⟩ := (r.get (k := k)).1 _ e2
    have ek : u = kV k := by
      cases e <;> cases e1
      · exact h2.int
      · exact h2.str
    refine .inr ⟨a, y, rfl, ?_, p.sc S ry⟩
    rw [ek, ← e3]
    exact DGet.k ha
  | _ => cases e <;> exact p.elim
/-- len -/
abbrev rLenA (K : PySem.W.Frag) : List V → Hp → VK → Prop := fun xs H Q => (∃ x n, xs = [x] ∧ LenV K x H n ∧ Q (.int n) H) ∨ ∃ a kvs, xs = [.ref a] ∧ Rd H a (.dK kvs) ∧ Q (.int kvs.length) H
theorem call_lenA : CallR X (.builtin "len") (rLenA X.K) := call_len.or (by
  intro pins s σ H xs us Q I r h
  obtain ⟨a, kvs, rfl, e, q⟩ := h
  obtain ⟨u, rfl, rx⟩ := vals1 r
  cases rx
  exact d_len I e fun t s' I' => ⟨.int kvs.length, H, I', ⟨_, rfl⟩, q⟩)
theorem b_len : B1 c .len (fun x => rLenA c.K [x]) := by
  intro w s σ d v Q S h p
  cases d with
  | tup xs =>
    obtain ⟨a, o, vs, rfl, _, ha, _, r⟩ := h.tup
    exact .inl ⟨_, vs.length, rfl, .inr ⟨vs, sqT ha, rfl⟩, by rw [← r.length]; exact p.sc S (.int _)⟩
  | lst xs =>
    obtain ⟨a, vs, rfl, ha, r⟩ := h.lst
    exact .inl ⟨_, vs.length, rfl, .inl ⟨vs, SqL.of ha, rfl⟩, by rw [← r.length]; exact p.sc S (.int _)⟩
  | scr ns =>
    obtain ⟨a, rfl, ha⟩ := h.scr
    exact .inl ⟨_, ns.length, rfl, .inl ⟨_, ha, by simp⟩, p.sc S (.int _)⟩
  | dic kvs =>
    obtain ⟨a, vs, rfl, ha, r⟩ := h.dic
    exact .inr ⟨a, vs, rfl, .inl ha, by rw [← r.length]; exact p.sc S (.int _)⟩
  | str z =>
    rw [h.str]
    have p : PB c w Q (if z.length ≤ LIM then .fz (.int z.length) else .bad) := p
    by_cases hz : z.length ≤ LIM
    · rw [if_pos hz] at p
      exact .inl ⟨_, z.length, rfl, ⟨by rw [← lim_eq]; exact hz, rfl⟩, p.sc S (.int _)⟩
    · rw [if_neg hz] at p; exact p.elim
  | _ => exact p.elim
/-! ints -/
theorem b_sub : B2 c .sub (rI0 fun i j => .int (i - j)) := by
  intro w s σ d e v u Q S h1 h2 p
  cases d <;> cases e <;> first | exact p.elim | skip
  rw [h1.int, h2.int]
  exact ⟨_, _, rfl, rfl, p.sc S (.int _)⟩
theorem b_mul : B2 c .mul (rI CMul fun i j => .int (i * j)) := by
  intro w s σ d e v u Q S h1 h2 p
  cases d <;> cases e <;> first | exact p.elim | skip
  rename_i a b
  rw [h1.int, h2.int]
  have p : PB c w Q (if small64 a = true ∨ small64 b = true then .fz (.int (a * b)) else .bad) := p
  by_cases hc : small64 a = true ∨ small64 b = true
  · rw [if_pos hc] at p
    simp only [small64, Bool.and_eq_true, decide_eq_true_eq] at hc
    exact ⟨a, b, rfl, rfl, hc, p.sc S (.int _)⟩
  · rw [if_neg hc] at p; exact p.elim
theorem b_fdiv : B2 c .fdiv (rI CDivN fun i j => .int (i.fdiv j)) := by
  intro w s σ d e v u Q S h1 h2 p
  cases d <;> cases e <;> first | exact p.elim | skip
  rename_i a b
  rw [h1.int, h2.int]
  have p : PB c w Q (if b ≠ 0 ∧ b.natAbs < 1073741824 then .fz (.int (a.fdiv b)) else .bad) := p
  by_cases hc : b ≠ 0 ∧ b.natAbs < 1073741824
  · rw [if_pos hc] at p
    exact ⟨a, b, rfl, rfl, hc, p.sc S (.int _)⟩
  · rw [if_neg hc] at p; exact p.elim
theorem b_mod : B2 c .mod (rI (fun _ j => j ≠ 0) fun i j => .int (i.fmod j)) := by
  intro w s σ d e v u Q S h1 h2 p
  cases d <;> cases e <;> first | exact p.elim | skip
  rename_i a b
  rw [h1.int, h2.int]
  have p : PB c w Q (if b ≠ 0 then .fz (.int (a.fmod b)) else .bad) := p
  by_cases hc : b ≠ 0
  · rw [if_pos hc] at p
    exact ⟨a, b, rfl, rfl, hc, p.sc S (.int _)⟩
  · rw [if_neg hc] at p; exact p.elim
theorem b_pow : B2 c .pow (rI CPow fun i j => .int (i ^ j.toNat)) := by
  intro w s σ d e v u Q S h1 h2 p
  cases d <;> cases e <;> first | exact p.elim | skip
  rename_i a b
  rw [h1.int, h2.int]
  have p : PB c w Q (if 0 ≤ b ∧ b ≤ 1000000 ∧ a.natAbs < 2 ^ 64 then .fz (.int (a ^ b.toNat)) else .bad) := p
  by_cases hc : 0 ≤ b ∧ b ≤ 1000000 ∧ a.natAbs < 2 ^ 64
  · rw [if_pos hc] at p
    exact ⟨a, b, rfl, rfl, hc, p.sc S (.int _)⟩
  · rw [if_neg hc] at p; exact p.elim
theorem b_int : B1 c .toInt (fun x H Q => (∃ i, [x] = [.int i] ∧ Q (.int i) H) ∨ ∃ k, [x] = [.bl k] ∧ Q (.int (if k then 1 else 0)) H) := by
  intro w s σ d v Q S h p
  cases d <;> first | exact p.elim | skip
  · rw [h.bl]
    exact .inr ⟨_, rfl, p.sc S (.int _)⟩
  · rw [h.int]
    exact .inl ⟨_, rfl, p.sc S (.int _)⟩
end
end Mi

set_option Elab.async false
set_option linter.all false
set_option maxRecDepth 100000
set_option maxHeartbeats 2000000
/-! Mi: tuples that are laid with nothing beside their items. -/
namespace L2
open PySem PySem.Spec PyProof.Rows HT
section
variable {X : Cx} {pins : List (Addr × Obj)} {σ : L2.St} {H : Hp} {s : Shared}
def tupO (its : List Value) : Obj := { cls := .type "tuple", data := .seq its.toArray }
theorem tupF_ok {P : Program} {w : World} {H : Hp} {h : Heap} {xs : List V} {its : List Value} (hz : xs.length ≤ sizeLine) (r : Vals xs its) :
    ObjOk P w H (h.push (tupO its)) h.objs.size (.frz (tupO its) (.tup xs)) := ⟨Heap.get?_push_size _ rfl, hz, its, r, ⟨_, Heap.get?_push_size _ rfl, rfl, _, rfl⟩⟩
/-- a new tuple -/
def newT (xs : List V) (H : Hp) (Q : VK) : Prop := ∀ p o, o.dict = none → H p = none → Q (.ref p) (upd H p (.frz o (.tup xs)))
theorem tupF_new {Q : VK} {xs : List V} {its : List Value} (I : Inv X pins σ H s) (hz : xs.length ≤ sizeLine) (r : Vals xs its) (q : newT xs H Q) : EP X pins σ Q (.ref s.heap.objs.size) { s with heap := s.heap.push (tupO its) } :=
  ⟨.ref s.heap.objs.size, _, I.laid (t' := s.toks) (o := .frz (tupO its) (.tup xs)) (fun b ob q => Heap.get?_push_of_some _ q) (Nat.le_refl _) (tupF_ok hz r), rfl, q _ (tupO its) rfl (I.hok.fresh (Nat.le_refl _))⟩
def tTupF (t : TA) : TE := fun σ H Q => t σ H fun xs H1 => xs.length ≤ sizeLine ∧ newT xs H1 Q
theorem pe_tupF {es : List Expr} {t : TA} {pos : Pos} {x1} (h : PA X es t) : PE X (.Tuple es x1 pos) (tTupF t) := by
  refine ⟨fun pins s σ H Q I hq => ?_⟩
  exact wpAny_Tuple_spliced (thn (h.run pos pins s σ H _ I hq) fun us s1 ⟨xs, H1, I1, r, z, q⟩ => ⟨by rw [← r.length]; exact z, tupF_new I1 z r q⟩)
def rCatF (K : PySem.W.Frag) : R2 := fun x y H Q => ∃ a b xs ys, x = .ref a ∧ y = .ref b ∧ SqT K H a xs ∧ SqT K H b ys ∧ xs.length + ys.length ≤ sizeLine ∧
  (xs = [] → Q (.ref b) H) ∧ (xs ≠ [] → ys = [] → Q (.ref a) H) ∧ (xs ≠ [] → ys ≠ [] → newT (xs ++ ys) H Q)
theorem op_catF : OpR X (binaryOp .Add) (rCatF X.K) := by
  intro pins s σ H x y v u Q I rx ry ⟨a, b, xs, ys, ex, ey, ha, hb, hz, none_, fst, both⟩
  subst ex ey
  cases rx
  cases ry
  have ⟨us, ru, lu, _⟩ := I.tuple ha
  have ⟨vs, rv, lv, _⟩ := I.tuple hb
  match xs, us, ru with
  | [], _, .nil => exact cat_tup0 lu lv ⟨.ref b, H, I, rfl, none_ rfl⟩
  | x :: xs, u :: us, ru =>
    have some_ : x :: xs ≠ [] := fun z => nomatch z
    have len : (u :: us).length + vs.length ≤ sizeLine := by rw [← ru.length, ← rv.length]; exact hz
    apply HT.cat_tup lu lv (fun z => nomatch z) _ _ len
    · exact fun z => ⟨.ref a, H, I, rfl, fst some_ (rv.nil_iff.mp z)⟩
    · exact fun z => tupF_new I (by rw [List.length_append]; exact hz) (ru.append rv) (both some_ fun e => z (rv.nil_iff.mpr e))
def rSlF (K : PySem.W.Frag) : V → Option Int → Option Int → Hp → VK → Prop := fun x lo hi H Q => ∃ a xs, x = .ref a ∧ SqT K H a xs ∧
  (HT.sIx xs.length 0 lo = 0 ∧ HT.sIx xs.length xs.length hi = xs.length → Q (.ref a) H) ∧ (¬ (HT.sIx xs.length 0 lo = 0 ∧ HT.sIx xs.length xs.length hi = xs.length) → newT (cutV xs lo hi) H Q)
theorem sl_tupF : SlR X (rSlF X.K) := by
  rintro pins s σ H x v vl vu lo hi sl Q I rx hs pl pu ⟨a, xs, rfl, hx, whole, part⟩
  cases rx
  have ⟨its, r, lies, z⟩ := I.tuple hx
  have n : its.toArray.size = xs.length := by simp [r.length]
  refine ⟨"tuple", _, PyProof.Rows.slot_tuple_getitem.lookup, lies.typeIs, ?_⟩
  rcases Classical.em (HT.sIx xs.length 0 lo = 0 ∧ HT.sIx xs.length xs.length hi = xs.length) with w | w
  · exact getItem_tuple_whole lies hs pl pu (n ▸ w) ⟨.ref a, H, I, rfl, whole w⟩
  · refine HT.getItem_tuple_cut lies hs pl pu (by rw [n]; exact w) ?_ (by rw [n]; exact z)
    have cut := (r.drop (HT.sIx xs.length 0 lo)).take (HT.sIx xs.length xs.length hi - HT.sIx xs.length 0 lo)
    have small := Nat.le_trans (cutV_length xs lo hi) z
    rw [n]
    exact tupF_new I small cut (part w)
def kTupF (K : PySem.W.Frag) (x : V) (H : Hp) (Q : VK) : Prop :=
  (∃ p xs, x = .ref p ∧ SqL K H p xs ∧ newT xs H Q) ∨ (∃ p xs, x = .ref p ∧ SqT K H p xs ∧ Q (.ref p) H)
theorem call_tupleF : CallR X (.type "tuple") (fun xs H Q => ∃ x, xs = [x] ∧ kTupF X.K x H Q) := by
  rintro pins s σ H xs us Q I r ⟨x, rfl, h⟩
  have ⟨u, e, ru⟩ := vals1 r
  subst e
  rcases h with h | h <;> (have ⟨p, xs, e, hs, q⟩ := h; subst e; cases ru)
  · have ⟨its, rv, lies, z⟩ := I.list hs
    have fits : its.toArray.size ≤ sizeLine := by rw [List.size_toArray, ← rv.length]; exact z
    exact call_tuple_list lies.isList (fun h' kept => tupF_new (I.kept (t' := s.toks) kept) z rv q) fits
  · have ⟨_, _, lies, _⟩ := I.tuple hs
    exact call_tuple_tup lies ⟨.ref p, H, I, rfl, q⟩
/-- a method of a tuple with nothing beside its items -/
theorem tupF_obj {a : Addr} {o : Obj} {xs : List V} (I : Inv X pins σ H s) (h : H a = some (.frz o (.tup xs))) (n : o.dict = none) :
    ∃ (its : List Value) (k : Nat) (sl : Array (Option Value)), Vals xs its ∧ xs.length ≤ sizeLine ∧ s.heap.get? a = some { cls := .type "tuple", dict := none, data := .seq its.toArray k, slots := sl } := by
  obtain ⟨h1, hz, its, r, o2, h2, hc, k, hd⟩ := I.hok a _ h
  rw [h1] at h2
  cases h2
  obtain ⟨cls, dd, dt, sl⟩ := o
  simp only at hc hd n
  subst hc hd n
  exact ⟨its, k, sl, r, hz, h1⟩
/-- of that built-in type, with nothing beside -/
def tyF (K : PySem.W.Frag) (T : String) (x : V) (H : Hp) : Prop := tyV K T x H ∨ ∃ a o xs, x = .ref a ∧ T = "tuple" ∧ H a = some (.frz o (.tup xs)) ∧ o.dict = none
theorem tyF_is {T : String} {x : V} {v : Value} (I : Inv X pins σ H s) (r : RelV x v) (ty : tyF X.K T x H) :
    s.TypeIs v T ∧ ∀ a, v = .ref a → ∃ ob, s.heap.get? a = some ob ∧ ob.dict = none := by
  rcases ty with ty | ⟨a, o, xs, rfl, rfl, h, n⟩
  · exact tyV_is I r ty
  · cases r
    obtain ⟨its, k, sl, _, _, e⟩ := tupF_obj I h n
    exact ⟨⟨_, e, rfl⟩, fun b q => by cases q; exact ⟨_, e, rfl⟩⟩
structure BmF (X : Cx) (name : Str) (T id : String) (r : V → List V → Hp → VK → Prop) : Prop where
  pa : PlainAttrs T
  slot : Slot T name id
  hty : typeOf (.builtin id) = pure (.type "method_descriptor")
  hm : MtR X id r
/-- o.m(e, ..), o of a built-in type that is told behind it -/
def tBMF (X : Cx) (name : Str) (to : TE) (t : TA) : TE := fun σ H Q => to σ H fun x H1 => ∃ T id r, BmF X name T id r ∧ tyF X.K T x H1 ∧ t σ H1 fun xs H2 => r x xs H2 Q
theorem pe_bmF {o e : Expr} {es : List Expr} {to : TE} {t : TA} {name : Str} {apos cpos : Pos} (ho : PE X o to) (ha : PA X (e :: es) t)
    (hbase : attributeBase o name X.env (eval o X.env) = eval o X.env)
    (hfew : ((backTo cpos (starEach (e :: es) X.env)).all (fun x => !x.1) && (backToKw cpos (keywordEach [] X.env)).all (fun x => x.1.isSome)
      && decide ((e :: es).length + ([] : List Keyword).length + (if ([] : List Keyword).isEmpty then 0 else 1) < 30)) = true)
    (hline : (apos.endLine == cpos.line) = true) (hs : starEach (e :: es) X.env = (false, eval e X.env) :: starEach es X.env) (hplain : (backTo cpos (starEach es X.env)).any (·.1) = false) :
    PE X (.Call (.Attribute o name apos) (e :: es) [] cpos) (tBMF X name to t) := by
  refine ⟨fun pins s σ H Q I h => ?_⟩
  refine wpAny_Call_method_late hbase hfew hline rfl (thn (ho.run pins s σ H _ I h) fun v s1 ⟨x, H1, I1, r1, T, id, r, B, ty, q1⟩ => ?_)
  obtain ⟨h1, h2⟩ := tyF_is I1 r1 ty
  refine ⟨T, id, B.pa, B.slot, B.hty, h1, h2, ?_⟩
  have hA := ha.run cpos pins s1 σ H1 _ I1 q1
  rw [hs] at hA ⊢
  refine Calls.callWith_builtin (by show (false || (backTo cpos (starEach es X.env)).any (·.1)) = false; rw [hplain] <;> rfl) (Calls.evalArgs_plain ?_)
  exact thn hA fun us s2 ⟨vs, H2, I2, r2, q2⟩ => B.hm pins s2 σ H2 x vs v us Q I2 r1 r2 q2
/-! count, index: flat items -/
def allFl (y : V) (ys : List V) : Prop := flatV y = true ∧ ys.all flatV = true
theorem countP_eqU {x : V} : ∀ {xs : List V} {us : List Value}, Vals xs us → xs.all flatV = true → us.countP (eqU x) = xs.countP fun y => eqV y x
  | _, _, .nil, _ => rfl
  | y :: xs, u :: us, .cons r t, f => by
    rw [List.all_cons, Bool.and_eq_true] at f
    rw [List.countP_cons, List.countP_cons, eqU_of r f.1, countP_eqU t f.2]
theorem mt_countL : MtR X "list.count" (fun x xs H Q => ∃ a ys y, x = .ref a ∧ xs = [y] ∧ SqL X.K H a ys ∧ allFl y ys ∧ Q (.int (ys.countP fun z => eqV z y : Nat)) H) := by
  intro pins s σ H x xs v us Q I rx rxs h
  obtain ⟨a, ys, y, rfl, rfl, hs, ⟨fy, fys⟩, q⟩ := h
  cases rx
  obtain ⟨uy, e0, ry⟩ := vals1 rxs
  subst e0
  obtain ⟨its, rv, ⟨⟨cls, dd, data, sl⟩, n, ho, hc, hdn, hd⟩, hlen⟩ := I.list hs
  simp only at hc hd
  subst hc hd
  refine call_meets PySem.F.slot_list_count ⟨_, ho, rfl⟩ PySem.F.entry_list_count (PySem.F.args_list_count_2 _ _)
    (SeqAt.list_countAt a its.toArray n dd sl uy (eqU y)) ⟨ho, fun u' hu' => mem_eqAt ry fy rv fys u' (by simpa using hu'), ?_⟩
  exact ⟨.int (ys.countP fun z => eqV z y : Nat), H, I.tok _, ⟨s.toks, by rw [← countP_eqU rv fys]⟩, q⟩
theorem mt_countT : MtR X "tuple.count" (fun x xs H Q => ∃ a o ys y, x = .ref a ∧ xs = [y] ∧ H a = some (.frz o (.tup ys)) ∧ o.dict = none ∧ allFl y ys ∧ Q (.int (ys.countP fun z => eqV z y : Nat)) H) := by
  intro pins s σ H x xs v us Q I rx rxs h
  obtain ⟨a, o, ys, y, rfl, rfl, hs, no, ⟨fy, fys⟩, q⟩ := h
  cases rx
  obtain ⟨uy, e0, ry⟩ := vals1 rxs
  subst e0
  obtain ⟨its, k, sl, rv, _, ho⟩ := tupF_obj I hs no
  refine call_meets PySem.F.slot_tuple_count ⟨_, ho, rfl⟩ PySem.F.entry_tuple_count (PySem.F.args_tuple_count_2 _ _)
    (SeqAt.tuple_countAt a its.toArray k none sl uy (eqU y)) ⟨ho, fun u' hu' => mem_eqAt ry fy rv fys u' (by simpa using hu'), ?_⟩
  exact ⟨.int (ys.countP fun z => eqV z y : Nat), H, I.tok _, ⟨s.toks, by rw [← countP_eqU rv fys]⟩, q⟩
/-- the first place -/
def first (ys : List V) (y : V) (j : Nat) : Prop := ∃ z, ys[j]? = some z ∧ eqV z y = true ∧ ∀ (m : Nat) (z' : V), m < j → ys[m]? = some z' → eqV z' y = false
/-- the places' values, compared with y -/
theorem eq_at {y : V} {ys : List V} {its : List Value} (r : Vals ys its) (f : ys.all flatV = true) {m : Nat} (l : m < its.toArray.size) : ∃ y', ys[m]? = some y' ∧ eqU y its.toArray[m] = eqV y' y := by
  have l' : m < ys.length := by rw [r.length]; simpa using l
  have here := List.getElem?_eq_getElem l'
  have ⟨u, at_, rel⟩ := r.get here
  refine ⟨_, here, ?_⟩
  rw [show its.toArray[m] = u from (List.getElem?_eq_some_iff.mp at_).2, eqU_of rel (flat_at f here)]
theorem mt_indexT : MtR X "tuple.index" (fun x xs H Q => ∃ a o ys y j, x = .ref a ∧ xs = [y] ∧ H a = some (.frz o (.tup ys)) ∧ o.dict = none ∧ allFl y ys ∧ first ys y j ∧ Q (.int (j : Nat)) H) := by
  rintro pins s σ H x xs v us Q I rx rxs ⟨a, o, ys, y, j, rfl, rfl, tup, no, ⟨fy, fys⟩, ⟨z, here, equal, before⟩, q⟩
  cases rx
  have ⟨uy, e, ry⟩ := vals1 rxs
  subst e
  have ⟨its, k, sl, rv, _, lies⟩ := tupF_obj I tup no
  have l : j < its.toArray.size := by
    rw [List.size_toArray, ← rv.length]
    exact (List.getElem?_eq_some_iff.mp here).1
  refine call_meets PySem.F.slot_tuple_index ⟨_, lies, rfl⟩ PySem.F.entry_tuple_index (PySem.F.args_tuple_index_2 _ _) (TI.tuple_indexAt a its.toArray k none sl uy (eqU y) j l ?_ ?_) ⟨lies, fun u m => mem_eqAt ry fy rv fys u (by simpa using m), ⟨.int (j : Nat), H, I.tok _, ⟨_, rfl⟩, q⟩⟩
  · have ⟨y', e, q⟩ := eq_at (y := y) rv fys l
    cases e.symm.trans here
    exact q.trans equal
  · intro m lm mj
    have ⟨y', e, q⟩ := eq_at (y := y) rv fys lm
    exact q.trans (before m y' mj e)
end
end L2

set_option Elab.async false
set_option linter.all false
set_option maxRecDepth 100000
set_option maxHeartbeats 2000000
/-! Mi: equality, in, +, comparisons. -/
namespace Mi
open PySem L2
mutual
def toPD : D → PyData
  | .non => .none
  | .bl b => .bool b
  | .int i => .int i
  | .str x => .str x
  | .tup xs => .tuple (toPDs xs)
  | .lst xs => .list (toPDs xs)
  | .byt _ => .none
  | .dic _ => .none
  | .ins _ _ => .none
  | .cls _ => .none
  | .scr _ => .none
def toPDs : List D → List PyData
  | [] => []
  | x :: xs => toPD x :: toPDs xs
end
theorem okN_mono : ∀ {n m : Nat} {d : D}, n ≤ m → okN n d = true → okN m d = true
  | _, _, .non, _, _ => by simp [okN]
  | _, _, .bl _, _, _ => by simp [okN]
  | _, _, .int _, _, _ => by simp [okN]
  | _, _, .str _, _, h => by simpa [okN] using h
  | n + 1, m + 1, .tup xs, l, h => by
    simp only [okN, List.all_eq_true] at h ⊢
    exact fun x hx => okN_mono (Nat.le_of_succ_le_succ l) (h x hx)
  | n + 1, m + 1, .lst xs, l, h => by
    simp only [okN, List.all_eq_true] at h ⊢
    exact fun x hx => okN_mono (Nat.le_of_succ_le_succ l) (h x hx)
  | n, _, .byt _, _, h => by cases n <;> cases h
  | n, _, .dic _, _, h => by cases n <;> cases h
  | n, _, .ins _ _, _, h => by cases n <;> cases h
  | n, _, .cls _, _, h => by cases n <;> cases h
  | n, _, .scr _, _, h => by cases n <;> cases h
theorem ok_lay : ∀ (n : Nat) (d : D), okN n d = true → (toPD d).canLay0 = true ∧ (toPD d).depth ≤ n := by
  intro n
  induction n with
  | zero => intro d h; cases d <;> simp_all [okN, toPD, PyData.canLay0, PyData.depth, PyData.strOk]
  | succ n ih =>
    have all : ∀ xs : List D, xs.all (okN n) = true → PyData.canLayAll0 (toPDs xs) = true ∧ PyData.depthAll (toPDs xs) ≤ n := by
      intro xs
      induction xs with
      | nil => intro _; simp [toPDs, PyData.canLayAll0, PyData.depthAll]
      | cons x xs ihx =>
        intro h
        rw [List.all_cons, Bool.and_eq_true] at h
        obtain ⟨a, b⟩ := ih x h.1
        obtain ⟨p, q⟩ := ihx h.2
        simp only [toPDs, PyData.canLayAll0, PyData.depthAll, a, p, Bool.and_self, true_and]
        exact Nat.max_le.mpr ⟨b, q⟩
    intro d h
    cases d with
    | tup xs =>
      obtain ⟨a, b⟩ := all xs (by simpa [okN] using h)
      simp only [toPD, PyData.canLay0, PyData.depth, a, true_and]
      omega
    | lst xs =>
      obtain ⟨a, b⟩ := all xs (by simpa [okN] using h)
      simp only [toPD, PyData.canLay0, PyData.depth, a, true_and]
      omega
    | _ => simp_all [okN, toPD, PyData.canLay0, PyData.depth, PyData.strOk]
theorem ok_shaped {n : Nat} {d : D} (l : n ≤ 64) (h : okN n d = true) : SeqAt.shaped (toPD d) = true := by
  obtain ⟨a, b⟩ := ok_lay n d h
  unfold SeqAt.shaped
  rw [a, decide_eq_true (Nat.le_trans b l)]
  rfl
theorem eqN_eqv : ∀ (n : Nat) (a b : D), okN n a = true → okN n b = true → eqN n a b = PyData.eqv (toPD a) (toPD b) := by
  intro n
  induction n with
  | zero => intro a b ha hb; cases a <;> cases b <;> simp_all [okN, eqN, toPD, PyData.eqv]
  | succ n ih =>
    have all : ∀ xs ys : List D, xs.all (okN n) = true → ys.all (okN n) = true → allEq (eqN n) xs ys = PyData.eqvAll (toPDs xs) (toPDs ys) := by
      intro xs
      induction xs with
      | nil => intro ys _ _; cases ys <;> simp [allEq, toPDs, PyData.eqvAll]
      | cons x xs ihx =>
        intro ys h k
        cases ys with
        | nil => simp [allEq, toPDs, PyData.eqvAll]
        | cons y ys =>
          rw [List.all_cons, Bool.and_eq_true] at h k
          simp only [allEq, toPDs, PyData.eqvAll, ih x y h.1 k.1, ihx ys h.2 k.2]
    intro a b ha hb
    cases a with
    | tup xs =>
      cases b with
      | tup ys => simpa [eqN, toPD, PyData.eqv] using all xs ys (by simpa [okN] using ha) (by simpa [okN] using hb)
      | _ => simp_all [okN, eqN, toPD, PyData.eqv]
    | lst xs =>
      cases b with
      | lst ys => simpa [eqN, toPD, PyData.eqv] using all xs ys (by simpa [okN] using ha) (by simpa [okN] using hb)
      | _ => simp_all [okN, eqN, toPD, PyData.eqv]
    | _ => cases b <;> simp_all [okN, eqN, toPD, PyData.eqv]
section
variable {c : Cn} {X : Cx}
mutual
theorem rep_dp {F : Addr → Prop} {H : Hp} : ∀ {n : Nat} {d : D} {v : V}, Rep c F H d v → okN n d = true → Dp c.K H v (toPD d)
  | _, _, _, .non, _ => .non
  | _, _, _, .bl b, _ => .bl b
  | _, _, _, .int i, _ => .int i
  | _, _, _, .str x, _ => .str x
  | n + 1, _, _, .tup _ h _ r, o => .tup (sqT h) (reps_dp r (by simpa [okN] using o))
  | n + 1, _, _, .lst _ h r, o => .lst (SqL.of h) (reps_dp r (by simpa [okN] using o))
  | n, _, _, .byt _, o => by cases n <;> cases o
  | n, _, _, .cls _, o => by cases n <;> cases o
  | n, _, _, .scr _ _, o => by cases n <;> cases o
  | n, _, _, .scrK _, o => by cases n <;> cases o
  | n, _, _, .dic _ _ _, o => by cases n <;> cases o
  | n, _, _, .ins _ _ _, o => by cases n <;> cases o
theorem reps_dp {F : Addr → Prop} {H : Hp} : ∀ {n : Nat} {d : List D} {v : List V}, Reps c F H d v → d.all (okN n) = true → DpAll c.K H v (toPDs d)
  | _, _, _, .nil, _ => .nil
  | n, _, _, .cons h r, o => by
    rw [List.all_cons, Bool.and_eq_true] at o
    exact .cons (rep_dp h o.1) (reps_dp r o.2)
end
theorem WR.dp {w : Wd} {n : Nat} {d : D} {v : V} (h : WR c w d v) (o : okN n d = true) : Dp c.K w.H v (toPD d) := by
  rcases h with h | ⟨sub, a, bs, rfl, h⟩
  · exact rep_dp h o
  · cases h with
    | lst h r =>
      cases n with
      | zero => cases o
      | succ n => exact .lst (SqL.of h) (reps_dp r (by simpa [okN] using o))
    | dic _ _ => cases n <;> cases o
    | ins _ _ => cases n <;> cases o
def flW : D → V
  | .bl b => .bl b
  | .int i => .int i
  | .str x => .str x
  | _ => .non
theorem WR.fl {w : Wd} {d : D} {v : V} (h : WR c w d v) (o : flatD d = true) : v = flW d := by
  cases d with
  | non => exact h.non
  | bl b => exact h.bl
  | int b => exact h.int
  | str b => exact h.str
  | _ => cases o
theorem flW_flat (d : D) : flatV (flW d) = true := by cases d <;> rfl
theorem flW_eq {d e : D} (o : flatD d = true) (p : flatD e = true) : eqV (flW d) (flW e) = eqN 0 d e := by
  cases d <;> cases e <;> first | (cases o; done) | (cases p; done) | rfl
theorem reps_fl {F : Addr → Prop} {H : Hp} : ∀ {ds : List D} {vs : List V}, Reps c F H ds vs → ds.all flatD = true → vs = ds.map flW
  | _, _, .nil, _ => rfl
  | _, _, .cons (d := d) (v := v) h r, o => by
    rw [List.all_cons, Bool.and_eq_true] at o
    rw [List.map_cons, ← reps_fl r o.2, ← WR.fl (w := ⟨F, H, []⟩) (.inl h) o.1]
theorem all_fl : ∀ ds : List D, (ds.map flW).all flatV = true
  | [] => rfl
  | d :: ds => by rw [List.map_cons, List.all_cons, flW_flat, all_fl ds]; rfl
theorem any_fl {d : D} (o : flatD d = true) : ∀ {ds : List D}, ds.all flatD = true → inV (flW d) (ds.map flW) = ds.any fun y => eqN 0 y d
  | [], _ => rfl
  | e :: ds, p => by
    rw [List.all_cons, Bool.and_eq_true] at p
    have ih := any_fl o p.2
    unfold inV at ih ⊢
    rw [List.map_cons, List.any_cons, List.any_cons, flW_eq p.1 o, ih]
end
section
variable {c : Cn} {X : Cx}
theorem scal_fl {d e : D} (h : scalD d e = true) : flatD d = true ∧ flatD e = true ∧ scal (flW d) (flW e) = true ∧ decide (flW d = flW e) = eqN 0 d e := by
  cases d <;> cases e <;> first | (cases h; done) | skip
  all_goals refine ⟨rfl, rfl, rfl, ?_⟩
  all_goals simp [flW, eqN]
  all_goals rw [Bool.beq_eq_decide_eq]
def rEqA (K : PySem.W.Frag) : R2 := fun x y H Q => rEq x y H Q ∨ rEqD K x y H Q
def rNeA (K : PySem.W.Frag) : R2 := fun x y H Q => rNe x y H Q ∨ rNeD K x y H Q
theorem op_eqA (hu : X.A.units + 64 < cLine) : OpR X (compareOp .Eq) (rEqA X.K) := op_eq.or (op_eqD hu)
theorem op_neA (hu : X.A.units + 64 < cLine) : OpR X (compareOp .NotEq) (rNeA X.K) := op_ne.or (op_neD hu)
theorem eqA_of {w : Wd} {s : Sta} {σ : St} {d e : D} {v u : V} {k : Bool} (S : SR c w s.fr σ) (h1 : WR c w d v) (h2 : WR c w e u) (q : eqD d e = some k) :
    (scal v u = true ∧ decide (v = u) = k) ∨ ∃ p r, Dp c.K w.H v p ∧ Dp c.K w.H u r ∧ SeqAt.shaped p = true ∧ SeqAt.shaped r = true ∧ PyData.eqv p r = k := by
  unfold eqD at q
  by_cases hs : scalD d e = true
  · rw [if_pos hs] at q
    cases q
    obtain ⟨a, b, p, r⟩ := scal_fl hs
    rw [h1.fl a, h2.fl b]
    exact .inl ⟨p, r⟩
  · rw [if_neg hs] at q
    by_cases ho : okN 60 d = true ∧ okN 60 e = true
    · rw [if_pos ho] at q
      cases q
      exact .inr ⟨toPD d, toPD e, h1.dp ho.1, h2.dp ho.2, ok_shaped (by decide) ho.1, ok_shaped (by decide) ho.2, (eqN_eqv 60 d e ho.1 ho.2).symm⟩
    · rw [if_neg ho] at q; cases q
theorem b_eq : B2 c (.cm .eq) (rEqA c.K) := by
  intro w s σ d e v u Q S h1 h2 p
  obtain ⟨k, ek, q⟩ := PB.bl (b := eqD d e) S p
  rcases eqA_of S h1 h2 ek with ⟨a, b⟩ | ⟨p, r, a, b, x, y, z⟩
  · exact .inl ⟨a, by rw [b]; exact q⟩
  · exact .inr ⟨p, r, a, b, x, y, by rw [z]; exact q⟩
theorem b_ne : B2 c (.cm .ne) (rNeA c.K) := by
  intro w s σ d e v u Q S h1 h2 p
  obtain ⟨k, ek, q⟩ := PB.bl (b := (eqD d e).map not) S p
  rw [Option.map_eq_some_iff] at ek
  obtain ⟨k', ek, rfl⟩ := ek
  rcases eqA_of S h1 h2 ek with ⟨a, b⟩ | ⟨p, r, a, b, x, y, z⟩
  · exact .inl ⟨a, by rw [b]; exact q⟩
  · exact .inr ⟨p, r, a, b, x, y, by rw [z]; exact q⟩
theorem b_lt : B2 c (.cm .lt) (rI0 fun i j => .bl (decide (i < j))) := by
  intro w s σ d e v u Q S h1 h2 p
  cases d <;> cases e <;> first | exact p.elim | skip
  rw [h1.int, h2.int]
  exact ⟨_, _, rfl, rfl, p.sc S (.bl _)⟩
theorem b_le : B2 c (.cm .le) (rI0 fun i j => .bl (decide (i ≤ j))) := by
  intro w s σ d e v u Q S h1 h2 p
  cases d <;> cases e <;> first | exact p.elim | skip
  rw [h1.int, h2.int]
  exact ⟨_, _, rfl, rfl, p.sc S (.bl _)⟩
theorem b_gt : B2 c (.cm .gt) (rI0 fun i j => .bl (decide (j < i))) := by
  intro w s σ d e v u Q S h1 h2 p
  cases d <;> cases e <;> first | exact p.elim | skip
  rw [h1.int, h2.int]
  exact ⟨_, _, rfl, rfl, p.sc S (.bl _)⟩
theorem b_ge : B2 c (.cm .ge) (rI0 fun i j => .bl (decide (j ≤ i))) := by
  intro w s σ d e v u Q S h1 h2 p
  cases d <;> cases e <;> first | exact p.elim | skip
  rw [h1.int, h2.int]
  exact ⟨_, _, rfl, rfl, p.sc S (.bl _)⟩
theorem WR.isNon {w : Wd} {d : D} {v : V} (h : WR c w d v) : decide (v = .non) = (match d with | .non => true | _ => false) := by
  cases d with
  | non =>
    have e := h.non
    subst e
    rfl
  | _ => rcases h with h | ⟨_, _, _, rfl, h⟩ <;> cases h <;> rfl
theorem b_isN : B2 c (.cm .isN) (fun x y H Q => y = .non ∧ Q (.bl (decide (x = .non))) H) := by
  intro w s σ d e v u Q S h1 h2 p
  have e0 : e = .non := by cases d <;> cases e <;> first | rfl | exact p.elim
  subst e0
  refine ⟨h2.non, ?_⟩
  rw [h1.isNon]
  have p : PB c w Q (.b (cmD .isN d .non)) := p
  cases d <;> exact p.sc S (.bl _)
theorem b_notN : B2 c (.cm .notN) (fun x y H Q => y = .non ∧ Q (.bl (!decide (x = .non))) H) := by
  intro w s σ d e v u Q S h1 h2 p
  have e0 : e = .non := by cases d <;> cases e <;> first | rfl | exact p.elim
  subst e0
  refine ⟨h2.non, ?_⟩
  rw [h1.isNon]
  have p : PB c w Q (.b (cmD .notN d .non)) := p
  cases d <;> exact p.sc S (.bl _)
/-! in, not in -/
def rInDt (K : PySem.W.Frag) (f : Bool → Bool) : R2 := fun x y H Q => ∃ d ds, Dp K H x d ∧ (Dp K H y (.list ds) ∨ Dp K H y (.tuple ds)) ∧ SeqAt.shaped d = true ∧ SeqAt.shaped (.list ds) = true ∧ Q (.bl (f (ds.any fun z => PyData.eqv z d))) H
theorem shaped_lt {ds : List PyData} (h : SeqAt.shaped (.list ds) = true) : PyData.canLayAll0 ds = true := SeqAt.canLay_of_shaped h
theorem op_inDt (hu : X.A.units + 65 < cLine) : OpR X (compareOp .In) (rInDt X.K fun b => b) := by
  intro pins s σ H x y v u Q I rx ry h
  obtain ⟨d, ds, hd, he, sd, se, q⟩ := h
  obtain ⟨as, r1⟩ := Dp.reads I d x v hd rx
  rcases he with he | he
  · obtain ⟨bs, r2⟩ := Dp.reads I (.list ds) y u he ry
    exact SeqAt.in_list_reads r2 r1 (SeqAt.canLay_of_shaped se) (SeqAt.canLay_of_shaped sd) (PyProof.Rows.room_in_shaped sd hu) ⟨.bl _, H, I, rfl, q⟩
  · obtain ⟨bs, r2⟩ := Dp.reads I (.tuple ds) y u he ry
    exact SeqAt.in_tuple_reads r2 r1 (shaped_lt se) (SeqAt.canLay_of_shaped sd) (PyProof.Rows.room_in_shaped sd hu) ⟨.bl _, H, I, rfl, q⟩
theorem op_notInDt (hu : X.A.units + 65 < cLine) : OpR X (compareOp .NotIn) (rInDt X.K fun b => !b) := by
  intro pins s σ H x y v u Q I rx ry h
  obtain ⟨d, ds, hd, he, sd, se, q⟩ := h
  obtain ⟨as, r1⟩ := Dp.reads I d x v hd rx
  rcases he with he | he
  · obtain ⟨bs, r2⟩ := Dp.reads I (.list ds) y u he ry
    exact SeqAt.notIn_list_reads r2 r1 (SeqAt.canLay_of_shaped se) (SeqAt.canLay_of_shaped sd) (PyProof.Rows.room_in_shaped sd hu) ⟨.bl _, H, I, rfl, q⟩
  · obtain ⟨bs, r2⟩ := Dp.reads I (.tuple ds) y u he ry
    exact SeqAt.notIn_tuple_reads r2 r1 (shaped_lt se) (SeqAt.canLay_of_shaped sd) (PyProof.Rows.room_in_shaped sd hu) ⟨.bl _, H, I, rfl, q⟩
def rDIn (f : Bool → Bool) : R2 := fun x y H Q => ∃ a o, y = .ref a ∧ DGet H a x o ∧ Q (.bl (f o.isSome)) H
theorem op_inDict (hu : X.A.units + 1 < cLine) : OpR X (compareOp .In) (rDIn fun b => b) := by
  intro pins s σ H x y v u Q I rx ry h
  obtain ⟨a, o, rfl, g, q⟩ := h
  cases ry
  exact d_in hu I g rx fun s3 I3 => ⟨.bl o.isSome, H, I3, rfl, q⟩
theorem op_notInDict (hu : X.A.units + 1 < cLine) : OpR X (compareOp .NotIn) (rDIn fun b => !b) := by
  intro pins s σ H x y v u Q I rx ry h
  obtain ⟨a, o, rfl, g, q⟩ := h
  cases ry
  exact d_notIn hu I g rx fun s3 I3 => ⟨.bl (!o.isSome), H, I3, rfl, q⟩
def rSign (f : Bool → Bool) : R2 := fun x y H Q => ∃ (k : Nat) (z : Str), x = .str ⟨#[k]⟩ ∧ y = .str z ∧ Q (.bl (f (decide (k ∈ z.cps.toList)))) H
def rInA (K : PySem.W.Frag) (neg : Bool) : R2 := fun x y H Q => rIn K neg x y H Q ∨ rInDt K (fun b => if neg then !b else b) x y H Q ∨ rDIn (fun b => if neg then !b else b) x y H Q ∨ rSign (fun b => if neg then !b else b) x y H Q
theorem op_inA (hu : X.A.units + 65 < cLine) : OpR X (compareOp .In) (rInA X.K false) := op_in_seq.or ((op_inDt hu).or ((op_inDict (by omega)).or op_in_sign))
theorem op_notInA (hu : X.A.units + 65 < cLine) : OpR X (compareOp .NotIn) (rInA X.K true) := op_notIn_seq.or ((op_notInDt hu).or ((op_notInDict (by omega)).or op_notIn_sign))
theorem toPDs_any {d : D} (o : okN 60 d = true) : ∀ {ds : List D}, ds.all (okN 59) = true → ((toPDs ds).any fun z => PyData.eqv z (toPD d)) = ds.any fun y => eqN 60 y d
  | [], _ => rfl
  | e :: ds, p => by
    rw [List.all_cons, Bool.and_eq_true] at p
    simp only [toPDs, List.any_cons]
    rw [eqN_eqv 60 e d (okN_mono (by decide) p.1) o, toPDs_any o p.2]
theorem keyOf_w {w : Wd} {e : D} {u : V} {k : Key} (h : WR c w e u) (e1 : keyOf e = some k) : u = kV k := by
  cases e <;> cases e1
  · exact h.int
  · exact h.str
theorem in_seq {w : Wd} {d : D} {ds : List D} {v u : V} {a : Addr} {vs : List V} {k : Bool} {Q : VK} {neg : Bool} (h1 : WR c w d v) (hu : u = .ref a) (hq : SqL c.K w.H a vs ∨ SqT c.K w.H a vs) (r : Reps c w.F w.H ds vs)
    (e : anyEq d ds = some k) (q : Q (.bl (if neg then !k else k)) w.H) : rInA c.K neg v u w.H Q := by
  subst hu
  unfold anyEq at e
  by_cases hf : (flatD d && ds.all flatD) = true
  · rw [if_pos hf] at e
    cases e
    rw [Bool.and_eq_true] at hf
    have ev := h1.fl hf.1
    have es := reps_fl r hf.2
    refine .inl ⟨a, vs, rfl, hq, by rw [ev]; exact flW_flat d, by rw [es]; exact all_fl ds, ?_⟩
    rw [ev, es, any_fl hf.1 hf.2]
    exact q
  · rw [if_neg hf] at e
    by_cases ho : (okN 60 d && ds.all (okN 59)) = true
    · rw [if_pos ho] at e
      cases e
      rw [Bool.and_eq_true] at ho
      have sl : SeqAt.shaped (.list (toPDs ds)) = true := ok_shaped (n := 60) (d := .lst ds) (by decide) (by simpa [okN] using ho.2)
      refine .inr (.inl ⟨toPD d, toPDs ds, h1.dp ho.1, ?_, ok_shaped (by decide) ho.1, sl, ?_⟩)
      · rcases hq with hq | hq
        · exact .inl (.lst hq (reps_dp r ho.2))
        · exact .inr (.tup hq (reps_dp r ho.2))
      · rw [toPDs_any ho.1 ho.2]
        exact q
    · rw [if_neg ho] at e; cases e
theorem b_in : B2 c (.cm .isin) (rInA c.K false) := by
  intro w s σ d e v u Q S h1 h2 p
  have p : PB c w Q (.b (cmD .isin d e)) := p
  obtain ⟨k, ek, q⟩ := PB.bl S p
  cases e with
  | tup ds =>
    obtain ⟨a, o, vs, eu, _, ha, _, r⟩ := h2.tup
    exact in_seq h1 eu (.inr (sqT ha)) r (by simpa [cmD] using ek) q
  | lst ds =>
    obtain ⟨a, vs, eu, ha, r⟩ := h2.lst
    exact in_seq h1 eu (.inl (SqL.of ha)) r (by simpa [cmD] using ek) q
  | dic kvs =>
    obtain ⟨a, vs, rfl, ha, r⟩ := h2.dic
    have ek : (keyOf d).map (fun k => (dget kvs k).isSome) = some k := by simpa [cmD] using ek
    rw [Option.map_eq_some_iff] at ek
    obtain ⟨k', e1, rfl⟩ := ek
    refine .inr (.inr (.inl ⟨a, valV vs k', rfl, ?_, ?_⟩))
    · rw [keyOf_w h1 e1]; exact DGet.k ha
    · rw [← r.isSome k']; exact q
  | str z =>
    cases d with
    | str x =>
      simp only [cmD] at ek
      split at ek
      · rename_i n e
        cases ek
        refine .inr (.inr (.inr ⟨n, z, ?_, h2.str, q⟩))
        rw [h1.str]
        congr 1
        obtain ⟨⟨l⟩⟩ := x
        simp only at e
        subst e
        rfl
      · cases ek
    | _ => simp [cmD] at ek
  | _ => cases d <;> simp [cmD] at ek
theorem b_notin : B2 c (.cm .notin) (rInA c.K true) := by
  intro w s σ d e v u Q S h1 h2 p
  have p : PB c w Q (.b (cmD .notin d e)) := p
  obtain ⟨k, ek, q⟩ := PB.bl S p
  cases e with
  | tup ds =>
    obtain ⟨a, o, vs, eu, _, ha, _, r⟩ := h2.tup
    have ek : (anyEq d ds).map not = some k := by simpa [cmD] using ek
    rw [Option.map_eq_some_iff] at ek
    obtain ⟨k', e1, rfl⟩ := ek
    exact in_seq h1 eu (.inr (sqT ha)) r e1 q
  | lst ds =>
    obtain ⟨a, vs, eu, ha, r⟩ := h2.lst
    have ek : (anyEq d ds).map not = some k := by simpa [cmD] using ek
    rw [Option.map_eq_some_iff] at ek
    obtain ⟨k', e1, rfl⟩ := ek
    exact in_seq h1 eu (.inl (SqL.of ha)) r e1 q
  | dic kvs =>
    obtain ⟨a, vs, rfl, ha, r⟩ := h2.dic
    have ek : (keyOf d).map (fun k => !(dget kvs k).isSome) = some k := by simpa [cmD] using ek
    rw [Option.map_eq_some_iff] at ek
    obtain ⟨k', e1, rfl⟩ := ek
    refine .inr (.inr (.inl ⟨a, valV vs k', rfl, ?_, ?_⟩))
    · rw [keyOf_w h1 e1]; exact DGet.k ha
    · rw [← r.isSome k']; exact q
  | _ => cases d <;> simp [cmD] at ek
/-! + -/
def rAddA (K : PySem.W.Frag) : R2 := fun x y H Q => rI0 (fun i j => .int (i + j)) x y H Q ∨ (∃ i j, x = .str i ∧ y = .str j ∧ i.length + j.length ≤ sizeLine ∧ Q (.str (i ++ j)) H) ∨ rCatF K x y H Q ∨ rCat x y H Q
theorem op_addA : OpR X (binaryOp .Add) (rAddA X.K) := op_add.or (op_add_str.or (op_catF.or op_cat))
theorem b_add : B2 c .add (rAddA c.K) := by
  intro w s σ d e v u Q S h1 h2 p
  cases d <;> cases e <;> first | exact p.elim | skip
  · rw [h1.int, h2.int]
    exact .inl ⟨_, _, rfl, rfl, p.sc S (.int _)⟩
  · rename_i x y
    have p : PB c w Q (if x.length + y.length ≤ LIM then .fz (.str (x ++ y)) else .bad) := p
    by_cases hc : x.length + y.length ≤ LIM
    · rw [if_pos hc] at p
      rw [h1.str, h2.str]
      exact .inr (.inl ⟨_, _, rfl, rfl, by rw [← lim_eq]; exact hc, p.sc S (.str _)⟩)
    · rw [if_neg hc] at p; exact p.elim
  · rename_i x y
    have p : PB c w Q (if x.length + y.length ≤ LIM then .fz (.tup (x ++ y)) else .bad) := p
    by_cases hc : x.length + y.length ≤ LIM
    · rw [if_pos hc] at p
      obtain ⟨a, o, vs, rfl, fa, ha, na, r⟩ := h1.tup
      obtain ⟨b, o2, us, rfl, fb, hb, nb, r2⟩ := h2.tup
      refine .inr (.inr (.inl ⟨a, b, vs, us, rfl, rfl, sqT ha, sqT hb, by rw [← lim_eq, ← r.length, ← r2.length]; exact hc, fun e => ?_, fun _ e => ?_, fun _ _ => p.newT S (r.append r2)⟩))
      · subst e
        cases r
        exact p.sc S (.tup fb hb nb r2)
      · subst e
        cases r2
        exact p.sc S (by rw [List.append_nil]; exact .tup fa ha na r)
    · rw [if_neg hc] at p; exact p.elim
  · rename_i x y
    have p : PB c w Q (if x.length + y.length ≤ LIM then .ow (.lst (x ++ y)) else .bad) := p
    by_cases hc : x.length + y.length ≤ LIM
    · rw [if_pos hc] at p
      obtain ⟨a, vs, rfl, ha, r⟩ := h1.lst
      obtain ⟨b, us, rfl, hb, r2⟩ := h2.lst
      exact .inr (.inr (.inr ⟨a, b, vs, us, rfl, rfl, ha, hb, by rw [← lim_eq, ← r.length, ← r2.length]; exact hc, p.newL S (r.append r2)⟩))
    · rw [if_neg hc] at p; exact p.elim
end
end Mi

set_option Elab.async false
set_option linter.all false
set_option maxRecDepth 100000
set_option maxHeartbeats 2000000
/-! Mi: isinstance, slices, conversions, methods. -/
namespace Mi
open PySem L2
def tyN : Ty → String
  | .int => "int"
  | .bool => "bool"
  | .str => "str"
  | .tup => "tuple"
  | .lst => "list"
  | .dic => "dict"
section
variable {c : Cn} {X : Cx}
theorem kit_non : ∀ t, kitB "NoneType" (tyN t) = some false := by intro t; cases t <;> kernel_rfl
theorem kit_bl : ∀ t, kitB "bool" (tyN t) = some (t == .int || t == .bool) := by intro t; cases t <;> kernel_rfl
theorem kit_int : ∀ t, kitB "int" (tyN t) = some (t == .int) := by intro t; cases t <;> kernel_rfl
theorem kit_str : ∀ t, kitB "str" (tyN t) = some (t == .str) := by intro t; cases t <;> kernel_rfl
theorem kit_tup : ∀ t, kitB "tuple" (tyN t) = some (t == .tup) := by intro t; cases t <;> kernel_rfl
theorem kit_lst : ∀ t, kitB "list" (tyN t) = some (t == .lst) := by intro t; cases t <;> kernel_rfl
theorem kit_dic : ∀ t, kitB "dict" (tyN t) = some (t == .dic) := by intro t; cases t <;> kernel_rfl
theorem ty_x {w : Wd} {d : D} {v : V} (h : WR c w d v) (hs : ∀ t, isTy t d ≠ none) : ∃ T, TyX c.K w.H v (.type T) ∧ ∀ t, kitB T (tyN t) = isTy t d := by
  cases d with
  | non => rw [h.non]; exact ⟨_, .base .non, kit_non⟩
  | bl b => rw [h.bl]; exact ⟨_, .base (.bl b), kit_bl⟩
  | int b => rw [h.int]; exact ⟨_, .base (.int b), kit_int⟩
  | str b => rw [h.str]; exact ⟨_, .base (.str b), kit_str⟩
  | tup b => obtain ⟨a, o, vs, rfl, _, ha, _, _⟩ := h.tup; exact ⟨_, .fTuple ha, kit_tup⟩
  | lst b => obtain ⟨a, vs, rfl, ha, _⟩ := h.lst; exact ⟨_, .base (.lst ha), kit_lst⟩
  | dic b => obtain ⟨a, vs, rfl, ha, _⟩ := h.dic; exact ⟨_, .base (.dK ha), kit_dic⟩
  | _ => exact absurd rfl (hs .int)
theorem isTy_some {t u : Ty} {d : D} (h : isTy t d ≠ none) : isTy u d ≠ none := by
  cases d <;> first | (intro z; cases z; done) | exact absurd rfl h
theorem b_isi {t : Ty} : B1 c (.isinst [t]) (fun x H Q => rIsi c.K [x, .ty (tyN t)] H Q) := by
  intro w s σ d v Q S h p
  have p : PB c w Q (.b (isAny [t] d)) := p
  obtain ⟨k, ek, q⟩ := PB.bl S p
  have e1 : isTy t d = some k := by
    simp only [isAny] at ek
    cases e : isTy t d with
    | none => rw [e] at ek; cases ek
    | some b => rw [e] at ek; cases b <;> exact ek
  obtain ⟨T, tx, hk⟩ := ty_x h fun u => isTy_some (t := t) (by rw [e1]; exact fun z => by cases z)
  exact ⟨v, .ty (tyN t), .type T, .type (tyN t), k, rfl, .ty _, tx, kit_ty (by rw [hk, e1]), q⟩
theorem kit_any {K : PySem.W.Frag} {T : String} {d : D} (hk : ∀ t, kitB T (tyN t) = isTy t d) : ∀ {ts : List Ty} {k : Bool}, isAny ts d = some k → PySem.W.kitAny K (.type T) (ts.map fun t => .type (tyN t)) = some k
  | [], k, e => by cases e; rfl
  | t :: ts, k, e => by
    simp only [isAny] at e
    cases q : isTy t d with
    | none => rw [q] at e; cases e
    | some b =>
      rw [q] at e
      refine kitAny_cons (kit_ty (by rw [hk, q])) (fun hb => ?_) fun hb => ?_
      · subst hb; exact kit_any hk e
      · subst hb; cases e; rfl
/-- isinstance(x, (T, ..)), at least one -/
theorem b_isiT {t : Ty} {ts : List Ty} : B1 c (.isinst (t :: ts)) (fun x H Q => ∀ p, H p = none → rIsiT c.K [x, .ref p] (upd H p (.tup ((t :: ts).map fun t => .ty (tyN t)))) Q) := by
  intro w s σ d v Q S h p a hn
  have p : PB c w Q (.b (isAny (t :: ts) d)) := p
  cases ek : isAny (t :: ts) d with
  | none => rw [ek] at p; exact p.elim
  | some k =>
    rw [ek] at p
    have e1 : isTy t d ≠ none := by
      intro e
      simp only [isAny] at ek
      rw [e] at ek
      cases ek
    let w' := w.new a (.tup ((t :: ts).map fun t => .ty (tyN t)))
    have g : Grow w w' := Grow.new S hn
    have h' : WR c w' d v := by
      rcases h with h | ⟨sub, b, bs, rfl, h⟩
      · exact .inl (g.rep h)
      · exact .inr ⟨sub, b, bs, rfl, h.mono g.f (fun a o _ e => g.h a o e) fun a o _ e => g.h a o e⟩
    obtain ⟨T, tx, hk⟩ := ty_x h' fun u => isTy_some (t := t) e1
    have pr : ∀ ts : List Ty, Paired ClsV (ts.map fun t => V.ty (tyN t)) (ts.map fun t => Value.type (tyN t)) := by
      intro ts
      induction ts with
      | nil => exact .nil
      | cons t ts ih => exact .cons (.ty _) ih
    exact ⟨v, a, _, .type T, (t :: ts).map fun t => .type (tyN t), k, rfl, upd_same, pr _, tx, kit_any hk ek, p w' _ g (.bl k)⟩
/-! conversions -/
theorem RepK.keys {F : Addr → Prop} {H : Hp} : ∀ {ds : List (Key × D)} {vs : List (Key × V)}, RepK c F H ds vs → Reps c F H (ds.map fun p => kD p.1) (vs.map fun p => kV p.1)
  | _, _, .nil => .nil
  | _, _, .cons (k := .inl i) _ r => .cons (.int i) r.keys
  | _, _, .cons (k := .inr x) _ r => .cons (.str x) r.keys
theorem Reps.bools {F : Addr → Prop} {H : Hp} : ∀ {ds : List D} {vs : List V} {bs : List Bool}, Reps c F H ds vs → boolsOf ds = some bs → vs = bs.map V.bl
  | _, _, _, .nil, e => by cases e; rfl
  | d :: ds, _, bs, .cons h r, e => by
    cases d with
    | bl b =>
      simp only [boolsOf, Option.map_eq_some_iff] at e
      obtain ⟨bs', e, rfl⟩ := e
      cases h
      rw [List.map_cons, Reps.bools r e]
    | _ => simp [boolsOf] at e
theorem b_toTup : B1 c .toTup (fun x H Q => (∃ y, [x] = [y] ∧ kTupF c.K y H Q) ∨ ∃ a kvs, x = .ref a ∧ Rd H a (.dK kvs) ∧ newT (kvs.map fun kv => kV kv.1) H Q) := by
  intro w s σ d v Q S h p
  cases d with
  | tup ds =>
    obtain ⟨a, o, vs, rfl, fa, ha, na, r⟩ := h.tup
    exact .inl ⟨_, rfl, .inr ⟨a, vs, rfl, sqT ha, p.sc S (.tup fa ha na r)⟩⟩
  | lst ds =>
    obtain ⟨a, vs, rfl, ha, r⟩ := h.lst
    exact .inl ⟨_, rfl, .inl ⟨a, vs, rfl, SqL.of ha, PB.newT S p r⟩⟩
  | dic kvs =>
    obtain ⟨a, vs, rfl, ha, r⟩ := h.dic
    exact .inr ⟨a, vs, rfl, .inl ha, PB.newT S (show PB c w Q (.fz (.tup (kvs.map fun p => kD p.1))) from p) r.keys⟩
  | _ => exact p.elim
/-- a dict's keys, as a walk over it hands them out -/
theorem keys_vals {P : Program} {w : World} {kvs : List (Key × V)} {vs : List (Key × Value)} {out : Array Value} (rk : KV kvs vs) (it : ItemsOf (fun i v => ∃ k x, vs[i]? = some (k, x) ∧ (mixKind P w).is k v = true) out vs.length) :
    Vals (kvs.map fun kv => kV kv.1) out.toList := by
  have same := KV.keys rk
  apply vals_of_at
  · have n : out.toList.length = vs.length := Array.length_toList.trans it.1
    rw [n]
    simpa using congrArg List.length same
  · intro j x w ex ew
    rw [Array.getElem?_toList] at ew
    have ⟨k, y, kj, is_⟩ := it.2 j w ew
    have at_j := congrArg (·[j]?) same
    simp only [List.getElem?_map, kj, Option.map_some] at at_j ex
    have ⟨kv, e1, e2⟩ := Option.map_eq_some_iff.mp at_j
    rw [e1] at ex
    cases ex
    show RelV (kV kv.1) w
    rw [e2]
    exact keyIs_rel is_
def rLstA (K : PySem.W.Frag) : List V → Hp → VK → Prop := fun xs H Q => (∃ p ys, xs = [.ref p] ∧ (SqL K H p ys ∨ SqT K H p ys) ∧ ∀ l, H l = none → Q (.ref l) (upd H l (.lst ys))) ∨ rListD xs H Q
theorem call_listA (hc : X.calm = true) : CallR X (.type "list") (rLstA X.K) := call_list_of.or (call_list_dK hc)
theorem b_toLst : B1 c .toLst (fun x => rLstA c.K [x]) := by
  intro w s σ d v Q S h p
  cases d with
  | tup ds =>
    obtain ⟨a, o, vs, rfl, fa, ha, na, r⟩ := h.tup
    exact .inl ⟨a, vs, rfl, .inr (sqT ha), PB.newL S p r⟩
  | lst ds =>
    obtain ⟨a, vs, rfl, ha, r⟩ := h.lst
    exact .inl ⟨a, vs, rfl, .inl (SqL.of ha), PB.newL S p r⟩
  | dic kvs =>
    obtain ⟨a, vs, rfl, ha, r⟩ := h.dic
    exact .inr ⟨a, vs, rfl, ha, PB.newL S (show PB c w Q (.ow (.lst (kvs.map fun p => kD p.1))) from p) r.keys⟩
  | _ => exact p.elim
/-! all of a list -/
theorem b_all : B1 c .all (fun x => rAll c.K [x]) := by
  intro w s σ d v Q S h p
  cases d with
  | lst ds =>
    obtain ⟨a, vs, rfl, ha, r⟩ := h.lst
    cases e : boolsOf ds with
    | none =>
      have p : PB c w Q (match boolsOf ds with | some bs => .fz (.bl (bs.all id)) | none => .bad) := p
      rw [e] at p
      exact p.elim
    | some bs =>
      have p : PB c w Q (match boolsOf ds with | some bs => .fz (.bl (bs.all id)) | none => .bad) := p
      rw [e] at p
      have q : vs = bs.map V.bl := r.bools e
      subst q
      exact ⟨a, bs, rfl, SqL.of ha, p.sc S (.bl _)⟩
  | _ => exact p.elim
end
end Mi

set_option Elab.async false
set_option linter.all false
set_option maxRecDepth 100000
set_option maxHeartbeats 4000000
/-! Mi: tuple(d), dict(t), list(d.items()). -/
namespace L2
open PySem PySem.Spec PyProof.Rows
section
variable {prog : Program} {w : World} {A : Around} {E : Value → Shared → Prop} {s : Shared} {T : String} {r d : Addr} {n : Nat} {P : Nat → Value → Prop} {OK : Heap → Prop}
/-- tuple's maker, at a source -/
theorem meets_tuple_src (K : PySem.W.KdlSrc prog w "dict" r d n P OK) (hn : n ≤ sizeLine) :
    MeetsIn prog w (Builtin.«tuple.__new__» ⟨[.type "tuple", .ref r], []⟩) (fun A R s => A.handled = none ∧ OK s.heap ∧
      ∀ (h' : Heap) (tk : Nat) (acc : Array Value), (∀ c u, s.heap.get? c = some u → h'.get? c = some u) → ItemsOf P acc n → R (.ok (.ret (.ref h'.objs.size))) { s with heap := h'.push (tupO acc.toList), toks := tk }) := by
  apply MeetsIn.of_wp
  rintro A R s ⟨calm, ok, post⟩
  have self := sub_tuple_self
  have lk := init_tuple_lookup
  have made := madeHere_tuple
  have ty := K.type s ok
  wp_walk using wpAny_typeOf ty, PySem.W.kdu_collect K (show A.in1.handled = none from calm) ok hn
  intro h' tk acc kept its
  have fits : acc.toList.toArray.size ≤ sizeLine := by rw [Array.toArray_toList, its.1]; exact hn
  have build : wpAny (model prog w) A.in1 (Builtin.Tuple.tupleExact acc.toList.toArray >>= ret) (fun fin s' => ∃ v, fin = .done (.ret v) ∧ R (.ok (.ret v)) s') (fun e s' => R (.error e) s') { s with heap := h', toks := tk } := by
    unfold Builtin.Tuple.tupleExact
    refine wpAny_bind (wpAny_newObj_type ?_ (by exact fits))
    exact wpAny_pure ⟨_, rfl, post h' tk acc kept its⟩
  exact build
/-- tuple(..) of a source -/
theorem call_tuple_src {Q : Value → Shared → Prop} (K : PySem.W.KdlSrc prog w "dict" r d n P OK) (hh : A.handled = none) (ok : OK s.heap) (hn : n ≤ sizeLine)
    (post : ∀ (h' : Heap) (tk : Nat) (acc : Array Value), (∀ c u, s.heap.get? c = some u → h'.get? c = some u) → ItemsOf P acc n → Q (.ref h'.objs.size) { s with heap := h'.push (tupO acc.toList), toks := tk }) : wpAny (model prog w) A (call (.type "tuple") [.ref r]) Q E s := by
  apply callType_meetsIn (Q₁ := fun u s1 => s1.TypeIs u "tuple" ∧ Q u s1) F.called_tuple (F.typeCall_tuple_1 _) (F.newCall_tuple_1 _) F.entry_tuple_new F.entry_object_init (meets_tuple_src K hn)
  · exact ⟨hh, ok, fun h' tk acc kept its => ⟨⟨_, Heap.get?_push_size _ rfl, rfl⟩, post h' tk acc kept its⟩⟩
  · intro u s1 q
    exact ⟨q.1, F.args_object_init_2 u _, _, object_init_meets F.called_tuple.init.lookup F.called_tuple.made (by decide), q.1, rfl, q.2⟩
end
section
variable {X : Cx}
theorem call_tuple_dK (hc : X.calm = true) : CallR X (.type "tuple") (fun xs H Q => ∃ a kvs, xs = [.ref a] ∧ Rd H a (.dK kvs) ∧ newT (kvs.map fun kv => kV kv.1) H Q) := by
  intro pins s σ H xs us Q I r ⟨a, kvs, ex, dict, q⟩
  subst ex
  match us, r with
  | [u], .cons ru .nil =>
    have ru : u = .ref a := ru
    subst ru
    have ⟨z, lo, vs, rk, lies⟩ := dk_rd I.hok dict
    have ⟨ep, at_⟩ := lies.dictAt
    have len : kvs.length = vs.length := by simpa using congrArg List.length (KV.keys rk)
    apply call_tuple_src (PySem.W.kdl_dict (knd := mixKind X.prog X.w) (ep := ep) lo) (I.ok.hd hc) at_ (len ▸ z)
    intro h' tk acc kept its
    exact tupF_new (I.kept (t' := tk) kept) (by rw [List.length_map]; exact z) (Mi.keys_vals rk its) q
end
/-! dict(t), t a tuple of pairs -/
section
variable {X : Cx}
/-- one for each place -/
theorem pick {β : Type} {R : Nat → β → Prop} : ∀ {n : Nat}, (∀ j, j < n → ∃ b, R j b) → ∃ bs : List β, bs.length = n ∧ ∀ j b, bs[j]? = some b → R j b
  | 0, _ => ⟨[], rfl, fun _ _ z => nomatch z⟩
  | n + 1, h => by
    have ⟨bs, len, each⟩ := pick fun j l => h j (Nat.lt_succ_of_lt l)
    have ⟨b, last⟩ := h n (Nat.lt_succ_self n)
    refine ⟨bs ++ [b], by rw [List.length_append, len]; rfl, fun j c z => ?_⟩
    rcases Nat.lt_trichotomy j n with l | l | l
    · exact each j c ((List.getElem?_append_left (len ▸ l)).symm.trans z)
    · subst l
      rw [List.getElem?_append_right (Nat.le_of_eq len), len, Nat.sub_self] at z
      cases z
      exact last
    · rw [List.getElem?_eq_none (by rw [List.length_append, len]; exact l)] at z
      exact nomatch z
/-- dict(xs) of pairs in a tuple -/
theorem call_dictT (hcalm : X.calm = true) : CallR X (.type "dict") (fun xs H Q => ∃ (a : Addr) (o : Obj) (ps : List Addr) (kvs : List (Key × V)), xs = [.ref a] ∧ H a = some (.frz o (.tup (ps.map V.ref))) ∧ o.dict = none ∧ Paired (fun p kv => SqT X.K H p [kV kv.1, kv.2]) ps kvs ∧
    ∀ p, H p = none → Q (.ref p) (upd H p (.dK (mergeK [] kvs)))) := by
  intro pins s σ H xs us Q I r ⟨a, o, ps, kvs, ex, tup, no, hp, q⟩
  subst ex
  match us, r with
  | [u], .cons ru .nil =>
    have ru : u = .ref a := ru
    subst ru
    have ⟨its, k, sl, rv, z, at_⟩ := tupF_obj I tup no
    have refs := refs_at rv
    subst refs
    rw [List.length_map] at z
    have ⟨prs, rel, len, each⟩ := pairs_of I hp
    have ⟨bs, nb, same⟩ : ∃ bs : List (Value × Value), bs.length = prs.length ∧ ∀ (j : Nat) (b : Value × Value), bs[j]? = some b → ∃ k T, prs[j]? = some (k, b.2) ∧ ps[j]? = some T ∧ IsTup s.heap T #[b.1, b.2] ∧ keyIs k b.1 = true :=
      pick fun j l => by
        have at_j := List.getElem?_eq_getElem l
        have ⟨T, u, e, tp, ky⟩ := each j _ at_j
        exact ⟨(u, prs[j].2), prs[j].1, T, at_j, e, tp, ky⟩
    have arg := PairArg.tuple (prog := X.prog) (w := X.w) a (ps.map Value.ref).toArray (fun j => ps[j]?.getD 0) bs
    have fits : bs.length ≤ sizeLine := by rw [nb, len]; exact z
    apply PySem.call_dict_pairs (knd := mixKind X.prog X.w) (kvs := prs) arg (I.ok.hd hcalm) ⟨⟨_, _, at_, rfl, rfl, rfl⟩, by simp [nb, len], fun j k v e => ?_⟩ ⟨nb.symm, fun j k v e => ?_⟩ fits
    · intro h' tk dict kept
      have small : (mergeK [] kvs).length ≤ sizeLine := Nat.le_trans (length_mergeK kvs []) (by rw [rel.length, len]; simpa using z)
      have new : ObjOk X.prog X.w (upd H s.heap.objs.size (.dK (mergeK [] kvs))) h' s.heap.objs.size (.dK (mergeK [] kvs)) := ⟨small, beq_eq_false_iff_ne.mpr (Nat.ne_of_gt I.big), _, KV.merge rel .nil, dict⟩
      exact ⟨.ref _, _, I.laid (t' := tk) (fun c o => kept c o (fun z => nomatch z)) (Nat.le_refl _) new, rfl, q _ (I.hok.fresh (Nat.le_refl _))⟩
    · have ⟨_, T, _, pj, tp, _⟩ := same j _ e
      refine ⟨by simp [pj], .inl ?_⟩
      show s.heap.IsTuple (ps[j]?.getD 0) _
      rw [pj]
      exact tp
    · have ⟨key, _, qj, _, _, ky⟩ := same j _ e
      exact ⟨key, qj, ky⟩
end
end L2

set_option Elab.async false
set_option linter.all false
set_option maxRecDepth 100000
set_option maxHeartbeats 4000000
namespace L2
open PySem PySem.Spec PyProof.Rows
/-! list(d.items()): the pairs with nothing beside -/
section
open LiI
/-- the entry that lies at the address b -/
def pairAt : List Addr → List (Key × V) → Addr → Option (Key × V)
  | a :: as, p :: kvs, b => if b = a then some p else pairAt as kvs b
  | _, _, _ => none
theorem pairAt_mem {b : Addr} {p : Key × V} : ∀ {as : List Addr} {kvs : List (Key × V)}, pairAt as kvs b = some p → ∃ j : Nat, as[j]? = some b ∧ kvs[j]? = some p
  | [], _, z => nomatch z
  | _ :: _, [], z => nomatch z
  | a :: as, p' :: kvs, z => by
    unfold pairAt at z
    split at z
    · next q => exact ⟨0, congrArg some q.symm, z⟩
    · have ⟨j, x, y⟩ := pairAt_mem z
      exact ⟨j + 1, x, y⟩
theorem pairAt_of {b : Addr} {p : Key × V} : ∀ {as : List Addr} {kvs : List (Key × V)} {j : Nat}, as.Nodup → as[j]? = some b → kvs[j]? = some p → pairAt as kvs b = some p
  | [], _, _, _, x, _ => nomatch x
  | _ :: _, [], _, _, _, y => nomatch y
  | a :: as, p' :: kvs, 0, _, x, y => by
    unfold pairAt
    rw [if_pos (Option.some.inj x).symm]
    exact y
  | a :: as, p' :: kvs, j + 1, nd, x, y => by
    have ⟨out, nd⟩ := List.nodup_cons.mp nd
    unfold pairAt
    have m : b ∈ as := List.mem_of_getElem? (show as[j]? = some b from x)
    rw [if_neg (show b ≠ a from fun z => out (z ▸ m))]
    exact pairAt_of nd x y
theorem paired_of {α β : Type} {R : α → β → Prop} : ∀ {as : List α} {bs : List β}, as.length = bs.length → (∀ (j : Nat) a b, as[j]? = some a → bs[j]? = some b → R a b) → Paired R as bs
  | [], [], _, _ => .nil
  | a :: as, b :: bs, l, h => .cons (h 0 a b rfl rfl) (paired_of (Nat.succ.inj l) fun j x y p q => h (j + 1) x y p q)
/-- new pairs over a world, each frozen as it lies -/
def paired (h : Heap) (as : List Addr) (kvs : List (Key × V)) (H : Hp) : Hp := fun b => match pairAt as kvs b with
  | some p => some (.frz ((h.get? b).getD default) (.tup [kV p.1, p.2]))
  | none => H b
theorem paired_at {h : Heap} {as : List Addr} {kvs : List (Key × V)} {H : Hp} {b : Addr} {p : Key × V} (e : pairAt as kvs b = some p) : paired h as kvs H b = some (.frz ((h.get? b).getD default) (.tup [kV p.1, p.2])) := by
  unfold paired
  rw [e]
theorem paired_off {h : Heap} {as : List Addr} {kvs : List (Key × V)} {H : Hp} {b : Addr} (n : b ∉ as) : paired h as kvs H b = H b := by
  unfold paired
  match e : pairAt as kvs b with
  | none => rfl
  | some p => exact absurd (List.mem_of_getElem? (pairAt_mem e).choose_spec.1) n
def rItemsF : V → Hp → VK → Prop := fun x H Q => ∃ (d : Addr) (kvs : List (Key × V)), x = .ref d ∧ H d = some (.dK kvs) ∧
  ∀ (H' : Hp) (p : Addr) (ts : List Addr) (ob : Addr → Obj), (∀ b o, H b = some o → H' b = some o) → H p = none → (∀ t ∈ ts, H t = none) → p ∉ ts → H' p = some (.lst (ts.map V.ref)) → (∀ t ∈ ts, (ob t).dict = none) →
    Paired (fun (t : Addr) (q : Key × V) => H' t = some (.frz (ob t) (.tup [kV q.1, q.2]))) ts kvs → Q (.ref p) H'
variable {X : Cx} {e : Expr} {te : TE} {p apos cpos pos : Pos}
/-- several objects laid at once -/
theorem laid_many {pins : List (Addr × Obj)} {σ : L2.St} {H H' : Hp} {s : Shared} {h' : Heap} {tk : Nat} (I : Inv X pins σ H s) (kept : ∀ b o, s.heap.get? b = some o → h'.get? b = some o) (grow : ∀ b u, H b = some u → H' b = some u)
    (new : ∀ b u, H' b = some u → H b = some u ∨ (s.heap.objs.size ≤ b ∧ ObjOk X.prog X.w H' h' b u)) : Inv X pins σ H' { s with heap := h', toks := tk } := by
  refine I.un { keep := fun b o e _ _ _ => kept b o e, slot := fun b o e _ _ _ => ⟨_, kept b o e⟩, free := fun b o e n _ => ?_, there := fun b o e _ => ⟨o, kept b o e⟩, tups := fun b _ => grow b _, frzs := fun b _ _ => grow b _, tbls := fun b ps e => ⟨#[], by rw [grow b _ e, Array.append_empty]⟩ } fun b u e => ?_
  · match q : H' b with
    | none => rfl
    | some u =>
      rcases new b u q with z | z
      · exact nomatch n.symm.trans z
      · exact absurd (Heap.lt_size e) (Nat.not_lt.mpr z.1)
  · rcases new b u e with z | z
    · exact (I.hok b u z).stay (fun d v _ => kept d v) (fun d => grow d _) fun d _ => grow d _
    · exact z.2
section
variable {pins : List (Addr × Obj)} {σ : L2.St} {H : Hp} {s : Shared} {h' : Heap} {tk n0 : Nat} {kvs : List (Key × V)} {vs : List (Key × Value)} {as : List Addr} {P : Program} {w : World}
/-- what a walk over d.items() has laid, entry by entry -/
theorem laid_pair (kv : KV kvs vs) (G : PySem.W.KdxG (mixKind P w) vs n0 h' as) {j : Nat} {b : Addr} {p : Key × V} (ea : as[j]? = some b) (ek : kvs[j]? = some p) : ∃ key x, RelV (kV p.1) key ∧ RelV p.2 x ∧ h'.get? b = some { cls := .type "tuple", data := .seq #[key, x] } := by
  have ⟨key, k, x, ev, is_, at_⟩ := G.pairs j b ea
  have ⟨q, eq, ek', rel⟩ := paired_get kv ek
  cases eq.symm.trans ev
  exact ⟨key, x, ek' ▸ relV_key (show keyIs k key = true from is_), rel, at_⟩
theorem laid_none (kv : KV kvs vs) (l : as.length = kvs.length) (G : PySem.W.KdxG (mixKind P w) vs n0 h' as) : ∀ t ∈ as, ((h'.get? t).getD default).dict = none := fun t m => by
  have ⟨j, lj, e⟩ := List.getElem_of_mem m
  have ⟨_, _, _, _, at_⟩ := laid_pair kv G (List.getElem?_eq_some_iff.mpr ⟨lj, e⟩) (List.getElem?_eq_getElem (l ▸ lj))
  rw [at_]
  rfl
theorem laid_ok {H : Hp} {b : Addr} {p : Key × V} (kv : KV kvs vs) (G : PySem.W.KdxG (mixKind P w) vs n0 h' as) (e : pairAt as kvs b = some p) : b ∈ as ∧ ObjOk P w H h' b (.frz ((h'.get? b).getD default) (.tup [kV p.1, p.2])) := by
  have ⟨j, ea, ek⟩ := pairAt_mem e
  have ⟨key, x, rk, rx, at_⟩ := laid_pair kv G ea ek
  rw [at_]
  exact ⟨List.mem_of_getElem? ea, at_, show 2 ≤ sizeLine by decide, [key, x], .cons rk (.cons rx .nil), _, at_, rfl, _, rfl⟩
/-- the pairs, over a world H0 that is H but for what the walk has laid besides -/
theorem laid_pairs {H0 : Hp} (I : Inv X pins σ H s) (kv : KV kvs vs) (kept : ∀ b o, s.heap.get? b = some o → h'.get? b = some o) (low : s.heap.objs.size ≤ n0) (l : as.length = kvs.length) (G : PySem.W.KdxG (mixKind X.prog X.w) vs n0 h' as)
    (grow : ∀ b u, H b = some u → H0 b = some u) (rest : ∀ H' b u, H0 b = some u → H b = some u ∨ (s.heap.objs.size ≤ b ∧ ObjOk X.prog X.w H' h' b u)) :
    (∀ b u, H b = some u → paired h' as kvs H0 b = some u) ∧ (∀ t ∈ as, H t = none) ∧ Paired (fun (t : Addr) (q : Key × V) => paired h' as kvs H0 t = some (.frz ((h'.get? t).getD default) (.tup [kV q.1, q.2]))) as kvs ∧ Inv X pins σ (paired h' as kvs H0) { s with heap := h', toks := tk } := by
  have above : ∀ t ∈ as, s.heap.objs.size ≤ t := fun t m => Nat.le_trans low (Nat.le_of_lt (G.above t m))
  have fresh : ∀ t ∈ as, H t = none := fun t m => I.hok.fresh (above t m)
  have nd : as.Nodup := G.rise.imp fun z => Nat.ne_of_lt z
  have up : ∀ b u, H b = some u → paired h' as kvs H0 b = some u := fun b u e => (paired_off fun m => nomatch (fresh b m).symm.trans e).trans (grow b u e)
  refine ⟨up, fresh, paired_of l fun j a p ea ek => paired_at (pairAt_of nd ea ek), laid_many I kept up fun b u e => ?_⟩
  match q : pairAt as kvs b with
  | some p =>
    have ⟨m, ok⟩ := laid_ok (H := paired h' as kvs H0) kv G q
    rw [paired_at q] at e
    exact .inr ⟨above b m, Option.some.inj e ▸ ok⟩
  | none =>
    unfold paired at e
    rw [q] at e
    exact rest _ b u e
end
theorem itemsF_laid {pins : List (Addr × Obj)} {σ : L2.St} {H : Hp} {s : Shared} {h' : Heap} {tk : Nat} {kvs : List (Key × V)} {vs : List (Key × Value)} {acc : Array Value} {c : Nat} {as : List Addr} (I : Inv X pins σ H s) (hz : kvs.length ≤ sizeLine) (kv : KV kvs vs)
    (hk : ∀ c u, s.heap.get? c = some u → h'.get? c = some u) (lst : h'.get? s.heap.objs.size = some { cls := .type "list", dict := none, data := .seq acc c, slots := #[] }) (hl : as.length = vs.length) (G : PySem.W.KdxG (mixKind X.prog X.w) vs s.heap.objs.size h' as) (its : acc.toList = as.map Value.ref) :
    ∃ (H' : Hp) (ob : Addr → Obj), (∀ b o, H b = some o → H' b = some o) ∧ H s.heap.objs.size = none ∧ (∀ t ∈ as, H t = none) ∧ s.heap.objs.size ∉ as ∧ H' s.heap.objs.size = some (.lst (as.map V.ref)) ∧ (∀ t ∈ as, (ob t).dict = none) ∧
      Paired (fun (t : Addr) (q : Key × V) => H' t = some (.frz (ob t) (.tup [kV q.1, q.2]))) as kvs ∧ Inv X pins σ H' { s with heap := h', toks := tk } := by
  have le := Nat.le_refl s.heap.objs.size
  have l : as.length = kvs.length := hl.trans (Paired.length kv).symm
  have free : H s.heap.objs.size = none := I.hok.fresh le
  have ⟨up, fresh, prs, J⟩ := laid_pairs (tk := tk) (H0 := upd H s.heap.objs.size (.lst (as.map V.ref))) I kv hk le l G (fun b u e => (upd_ne (ne_of_none e free)).trans e) fun H' b u e => by
    by_cases q : b = s.heap.objs.size
    · subst q
      rw [upd_same] at e
      cases e
      exact .inr ⟨le, by rw [List.length_map, l]; exact hz, acc.toList, c, its ▸ LiI.vals_refs as, lst⟩
    · exact .inl ((upd_ne q).symm.trans e)
  have out : s.heap.objs.size ∉ as := fun z => absurd (G.above _ z) (Nat.lt_irrefl _)
  exact ⟨_, _, up, free, fresh, out, (paired_off out).trans upd_same, laid_none kv l G, prs, J⟩
theorem itemsT_laid {pins : List (Addr × Obj)} {σ : L2.St} {H : Hp} {s : Shared} {h' : Heap} {tk : Nat} {kvs : List (Key × V)} {vs : List (Key × Value)} {as : List Addr} (I : Inv X pins σ H s) (hz : kvs.length ≤ sizeLine) (kv : KV kvs vs)
    (hk : ∀ c u, s.heap.get? c = some u → h'.get? c = some u) (hl : as.length = vs.length) (G : PySem.W.KdxG (mixKind X.prog X.w) vs s.heap.objs.size h' as) :
    ∃ (H' : Hp) (ob : Addr → Obj), (∀ b o, H b = some o → H' b = some o) ∧ (∀ t ∈ as, H t = none) ∧ (∀ t ∈ as, (ob t).dict = none) ∧
      Paired (fun (t : Addr) (q : Key × V) => H' t = some (.frz (ob t) (.tup [kV q.1, q.2]))) as kvs ∧ Inv X pins σ H' { s with heap := h', toks := tk } := by
  have l : as.length = kvs.length := hl.trans (Paired.length kv).symm
  have ⟨up, fresh, prs, J⟩ := laid_pairs (tk := tk) (H0 := H) I kv hk (Nat.le_refl _) l G (fun _ _ e => e) fun _ _ _ e => .inl e
  exact ⟨_, _, up, fresh, laid_none kv l G, prs, J⟩
/-- a view of a dict's entries, an object of nobody -/
def viewO (T : String) (d : Addr) : Obj := { cls := .type T, data := .fields #[.ref d] }
/-- e.items(), as an argument -/
theorem items_view {pins : List (Addr × Obj)} {σ : L2.St} {H : Hp} {s : Shared} {R : Value → Shared → Prop} {r : V → Hp → Prop} (he : PE X e te) (hbase : attributeBase e "items" X.env (eval e X.env) = eval e X.env) (hline : (apos.endLine == cpos.line) = true) (I : Inv X pins σ H s) (hq : te σ H r)
    (next : ∀ (s1 : Shared) (H1 : Hp) (x : V), Inv X pins σ H1 s1 → r x H1 → ∃ (d : Addr) (kvs : List (Key × V)), x = .ref d ∧ H1 d = some (.dK kvs) ∧
      ∀ (vs : List (Key × Value)) (ep : Nat), Inv X pins σ H1 { s1 with heap := s1.heap.push (viewO "dict_items" d) } → kvs.length ≤ sizeLine → KV kvs vs → (s1.heap.push (viewO "dict_items" d)).DictAt (mixKind X.prog X.w) d vs ep → R (.ref s1.heap.objs.size) { s1 with heap := s1.heap.push (viewO "dict_items" d) }) :
    wpAny (model X.prog X.w) X.A (eval (.Call (.Attribute e "items" apos) [] [] cpos) X.env) R X.xe s := by
  refine wpAny_Call_method (T := "dict") (id := "dict.items") hbase rfl hline F.plainAttrs_dict F.slot_dict_items F.type_dict_items (thn (he.run pins s σ H _ I hq) fun u s1 ⟨x, H1, I1, rx, q⟩ => ?_)
  have ⟨d, kvs, ex, dict, next⟩ := next s1 H1 x I1 q
  subst ex
  cases rx
  have ⟨z, low, vs, kv, lies⟩ := I1.hok d _ dict
  have ⟨ep, at_⟩ := lies.dictAt
  have post := next vs ep (I1.kept (t' := s1.toks) fun _ _ => Heap.get?_push_of_some _) z kv (at_.push _)
  exact ⟨lies.typeIs, lies.mapOf.noDict, method_meetsIn F.slot_dict_items F.entry_dict_items rfl (PySem.evalArgs_none ⟨rfl, lies.typeIs, F.args_dict_items_1 _, _, meets_dict_items (mixKind X.prog X.w) d low, ⟨vs, lies⟩, post⟩)⟩
theorem pe_itemsF (hc : X.calm = true) (he : PE X e te) (hg : Gl X "list") (hm : X.mg "list" = none) (hv : bootBuiltins "list" = some (.type "list")) (hbase : attributeBase e "items" X.env (eval e X.env) = eval e X.env) (hline : (apos.endLine == cpos.line) = true) :
    PE X (.Call (.Name "list" p) [.Call (.Attribute e "items" apos) [] [] cpos] [] pos) (tUn rItemsF te) := by
  constructor
  intro pins s σ H Q I hq
  refine wpAny_Call_Name_kw (ld_blt I hg hm hv (PyProof.Rows.callWith_type1 (Calls.spliced_cons (items_view he hbase hline I hq fun s1 H1 x I1 q => ?_)) rfl rfl))
  have ⟨d, kvs, ex, dict, q⟩ := q
  refine ⟨d, kvs, ex, dict, fun vs ep I2 z kv at_ => Calls.spliced_nil ?_⟩
  have fits : vs.length ≤ sizeLine := Paired.length kv ▸ z
  apply PySem.W.kdx_call (knd := mixKind X.prog X.w) (kvs := vs) (ep := ep) (I1.ok.hd hc) ⟨_, Heap.get?_push_size _ rfl, rfl, rfl⟩ at_ fits
  intro h' tk acc c as kept lst l G its
  have ⟨H', ob, k1, k2, k3, k4, k5, k6, k7, J⟩ := itemsF_laid (tk := tk) I2 z kv kept lst l G its
  exact ⟨.ref _, H', J, rfl, q H' _ as ob k1 k2 k3 k4 k5 k6 k7⟩
end
end L2

set_option Elab.async false
set_option linter.all false
set_option maxRecDepth 100000
set_option maxHeartbeats 2000000
/-! Mi: dict(..), list(d.items()), slices, count, index, get. -/
namespace Mi
open PySem L2
section
variable {c : Cn} {X : Cx}
/-! dict(x) -/
def rDicA (K : PySem.W.Frag) : List V → Hp → VK → Prop := fun xs H Q =>
  (∃ (a : Addr) (ps : List Addr) (kvs : List (Key × V)), xs = [.ref a] ∧ SqL K H a (ps.map V.ref) ∧ Paired (fun p kv => SqT K H p [kV kv.1, kv.2]) ps kvs ∧ ∀ p, H p = none → Q (.ref p) (upd H p (.dK (mergeK [] kvs)))) ∨
  ∃ (a : Addr) (o : Obj) (ps : List Addr) (kvs : List (Key × V)), xs = [.ref a] ∧ H a = some (.frz o (.tup (ps.map V.ref))) ∧ o.dict = none ∧ Paired (fun p kv => SqT K H p [kV kv.1, kv.2]) ps kvs ∧ ∀ p, H p = none → Q (.ref p) (upd H p (.dK (mergeK [] kvs)))
theorem call_dicA (hc : X.calm = true) : CallR X (.type "dict") (rDicA X.K) := (call_dictP hc).or (call_dictT hc)
theorem kV_rep {F : Addr → Prop} {H : Hp} {d : D} {v : V} {k : Key} (h : Rep c F H d v) (e : keyOf d = some k) : v = kV k := by
  cases d <;> cases e <;> cases h <;> rfl
theorem pairs_rep {F : Addr → Prop} {H : Hp} : ∀ {ds : List D} {vs : List V} {kds : List (Key × D)}, Reps c F H ds vs → pairsOf ds = some kds →
    ∃ (ps : List Addr) (kvs : List (Key × V)), vs = ps.map V.ref ∧ Paired (fun p kv => SqT c.K H p [kV kv.1, kv.2]) ps kvs ∧ RepK c F H kds kvs
  | [], _, kds, .nil, e => by cases e; exact ⟨[], [], rfl, .nil, .nil⟩
  | d :: ds, _, kds, .cons h r, e => by
    cases d with
    | tup xs =>
      match xs, h, e with
      | [a, b], h, e =>
        have e : ((keyOf a).bind fun k' => (pairsOf ds).map fun kvs => (k', b) :: kvs) = some kds := e
        rw [Option.bind_eq_some_iff] at e
        obtain ⟨k, e1, e⟩ := e
        rw [Option.map_eq_some_iff] at e
        obtain ⟨kds', e2, rfl⟩ := e
        obtain ⟨ps, kvs, h1, h2, h3⟩ := pairs_rep r e2
        cases h with
        | @tup p o us _ f hp n q =>
          cases q with
          | cons qa q =>
            cases q with
            | @cons _ ub _ _ qb q =>
              cases q
              rw [kV_rep qa e1] at hp
              exact ⟨p :: ps, (k, ub) :: kvs, by rw [h1]; rfl, .cons (sqT hp) h2, .cons qb h3⟩
      | [], _, e => simp [pairsOf] at e
      | [_], _, e => simp [pairsOf] at e
      | _ :: _ :: _ :: _, _, e => simp [pairsOf] at e
    | _ => simp [pairsOf] at e
theorem RepK.merge {F : Addr → Prop} {H : Hp} : ∀ {ds es : List (Key × D)} {vs us : List (Key × V)}, RepK c F H es us → RepK c F H ds vs → RepK c F H (mergeD ds es) (mergeK vs us)
  | _, _, _, _, .nil, s => s
  | ds, _, vs, _, .cons (k := k) (d := d) (v := v) (ds := es) (vs := us) h r, s => by
    show RepK c F H (mergeD (dput ds k d) es) (mergeK (putK vs k v) us)
    exact RepK.merge r (s.put h)
theorem b_toDic : B1 c .toDic (fun x => rDicA c.K [x]) := by
  intro w s σ d v Q S h p
  cases d with
  | lst ds =>
    obtain ⟨a, vs, rfl, ha, r⟩ := h.lst
    have p : PB c w Q (match pairsOf ds with | some kvs => .ow (.dic (mergeD [] kvs)) | none => .bad) := p
    cases e : pairsOf ds with
    | none => rw [e] at p; exact p.elim
    | some kds =>
      rw [e] at p
      obtain ⟨ps, kvs, rfl, h2, h3⟩ := pairs_rep r e
      exact .inl ⟨a, ps, kvs, rfl, SqL.of ha, h2, PB.newD S p (RepK.merge h3 .nil)⟩
  | tup ds =>
    obtain ⟨a, o, vs, rfl, _, ha, no, r⟩ := h.tup
    have p : PB c w Q (match pairsOf ds with | some kvs => .ow (.dic (mergeD [] kvs)) | none => .bad) := p
    cases e : pairsOf ds with
    | none => rw [e] at p; exact p.elim
    | some kds =>
      rw [e] at p
      obtain ⟨ps, kvs, rfl, h2, h3⟩ := pairs_rep r e
      exact .inr ⟨a, o, ps, kvs, rfl, ha, no, h2, PB.newD S p (RepK.merge h3 .nil)⟩
  | _ => exact p.elim
/-! list(d.items()) -/
theorem b_items : B1 c .listItems rItemsF := by
  intro w s σ d v Q S h p
  cases d with
  | dic kvs =>
    obtain ⟨a, vs, rfl, ha, r⟩ := h.dic
    have p : PB c w Q (.ow (.lst (kvs.map fun p => .tup [kD p.1, p.2]))) := p
    refine ⟨a, vs, rfl, ha, fun H' p' ts ob k1 k2 k3 k4 k5 k6 k7 => ?_⟩
    let w' : Wd := ⟨fun b => w.F b ∨ b ∈ ts, H', w.A⟩
    have g : Grow w w' := ⟨rfl, fun _ h => .inl h, k1, fun b z => z.elim .inl fun m => .inr (k3 b m), fun b z => by
      rcases z with z | z
      · cases q : w.H b with
        | none => exact absurd q (S.fd b z)
        | some o =>
          show H' b ≠ none
          rw [k1 b o q]; exact fun z => by cases z
      · obtain ⟨j, _, e1, _, e3⟩ := LiI.paired_ix k7 z
        show H' b ≠ none
        rw [e3]; exact fun z => by cases z⟩
    have rs : ∀ (ts' : List Addr) (kd : List (Key × D)) (kv : List (Key × V)), (∀ t ∈ ts', t ∈ ts) → Paired (fun (t : Addr) (q : Key × V) => H' t = some (.frz (ob t) (.tup [kV q.1, q.2]))) ts' kv → RepK c w.F w.H kd kv →
        Reps c w'.F w'.H (kd.map fun p => .tup [kD p.1, p.2]) (ts'.map V.ref) := by
      intro ts'
      induction ts' with
      | nil =>
        intro kd kv m pr r
        cases pr
        cases r
        exact .nil
      | cons t ts' ih =>
        intro kd kv m pr r
        cases pr with
        | cons h1 pr =>
          cases r with
          | @cons k d v _ _ hr r =>
            refine .cons (.tup (.inr (m t List.mem_cons_self)) h1 (k6 t (m t List.mem_cons_self)) (.cons ?_ (.cons (g.rep hr) .nil))) (ih _ _ (fun t q => m t (List.mem_cons_of_mem _ q)) pr r)
            cases k
            · exact .int _
            · exact .str _
    exact p w' p' g (.lst k5 (rs ts kvs vs (fun _ h => h) k7 r)) k2 fun z => z.elim (fun z => S.fd p' z k2) k4
  | _ => exact p.elim
/-! slices -/
def rSlA' (K : PySem.W.Frag) : V → Option Int → Option Int → Hp → VK → Prop := fun x lo hi H Q => rSlF K x lo hi H Q ∨ rSlL K x lo hi H Q
theorem sl_A : SlR X (rSlA' X.K) := sl_tupF.or sl_list
theorem cut_all {α : Type} (xs : List α) (lo hi : Option Int) (h : HT.sIx xs.length 0 lo = 0 ∧ HT.sIx xs.length xs.length hi = xs.length) : cut xs lo hi = xs := by
  unfold cut
  rw [h.1, h.2]
  simp
def cutD (lo hi : Option Int) : D → BR
  | .tup xs => .fz (.tup (cut xs lo hi))
  | .lst xs => .ow (.lst (cut xs lo hi))
  | _ => .bad
theorem b_slc {w : Wd} {s : Sta} {σ : St} {d : D} {v : V} {lo hi : Option Int} {Q : VK} (S : SR c w s.fr σ) (h : WR c w d v)
    (p : PB c w Q (cutD lo hi d)) : rSlA' c.K v lo hi w.H Q := by
  cases d with
  | tup ds =>
    obtain ⟨a, o, vs, rfl, fa, ha, no, r⟩ := h.tup
    refine .inl ⟨a, vs, rfl, sqT ha, fun e => ?_, fun _ => PB.newT S p (r.cut lo hi)⟩
    have p : PB c w Q (.fz (.tup (cut ds lo hi))) := p
    rw [cut_all ds lo hi (by rw [r.length]; exact e)] at p
    exact p.sc S (.tup fa ha no r)
  | lst ds =>
    obtain ⟨a, vs, rfl, ha, r⟩ := h.lst
    exact .inr ⟨a, vs, rfl, SqL.of ha, PB.newL S p (r.cut lo hi)⟩
  | _ => exact p.elim
end
end Mi

set_option Elab.async false
set_option linter.all false
set_option maxRecDepth 100000
set_option maxHeartbeats 2000000
/-! Mi: what each expression's reading comes to. -/
namespace Mi
open PySem L2
section
variable {c : Cn} {W : XW} {g : G} {σ : St} {H : Hp} {Q : VK} {α β : Type} {w w0 w1 : Wd} {s : Sta}
theorem Go.wkR {m : M R} {B : VK} (x : Ext w0 w1) (h : Go c W σ m w1 s fun r s' w' => ∀ v, RR c w0 w' σ r v → B v w'.H) : Go c W σ m w1 s fun r s' w' => ∀ v, RR c w1 w' σ r v → B v w'.H :=
  h.imp fun r s' w' _ _ q v rr => q v (rr.weak x)
theorem t_var {i : Nat} (h : tE c W (evE g (.var i)) σ H Q) : tVar i σ H Q := by
  obtain ⟨w, s, rfl, S, h⟩ := h
  unfold evE at h
  obtain ⟨x, e, h⟩ := h.getB
  cases x with
  | fz d =>
    obtain ⟨v, ev, r⟩ := S.rel.getF e
    exact ⟨v, ev, Go.pure h (Ext.refl w) S v r⟩
  | emp => exact (h.of_bad rfl).elim
  | ow d sub => exact (h.of_bad rfl).elim
theorem t_bor {i : Nat} (h : tE c W (evE g (.bor i)) σ H Q) : tVar i σ H Q := by
  obtain ⟨w, s, rfl, S, h⟩ := h
  unfold evE at h
  obtain ⟨x, e, h⟩ := h.getB
  cases x with
  | ow d sub =>
    obtain ⟨a, bs, _, _, ev, _⟩ := S.rel.getO e
    exact ⟨_, ev, Go.pure h (Ext.refl w) S _ ev⟩
  | emp => exact (h.of_bad rfl).elim
  | fz d => exact (h.of_bad rfl).elim
/-- a name's own object leaves it -/
theorem SR.take {fr : List Slot} {i : Nat} {d : D} {sub : List Nat} (S : SR c w fr σ) (e : fr[i]? = some (.ow d sub)) :
    ∃ a bs A', σ[i]? = some (some (.ref a)) ∧ Ext w ⟨w.F, w.H, A'⟩ ∧ SR c ⟨w.F, w.H, A'⟩ (fr.set i .emp) σ ∧ RR c w ⟨w.F, w.H, A'⟩ σ (.ow d sub) (.ref a) ∧ (∀ b, b ∈ w.A ↔ b ∈ a :: bs ∨ b ∈ A') ∧ Own c w.F w.H d sub a bs ∧ (∀ b ∈ a :: bs, b ∉ A') ∧ (a :: bs).Nodup := by
  obtain ⟨a, bs, A1, A2, ev, o, eA, _, r⟩ := S.rel.getO e
  have mem : ∀ b, b ∈ w.A ↔ b ∈ a :: bs ∨ b ∈ A1 ++ A2 := fun b => by
    rw [eA]
    simp only [List.mem_append, List.mem_cons]
    constructor
    · rintro (h | h | h | h)
      · exact .inr (.inl h)
      · exact .inl (.inl h)
      · exact .inl (.inr h)
      · exact .inr (.inr h)
    · rintro ((h | h) | (h | h))
      · exact .inr (.inl h)
      · exact .inr (.inr (.inl h))
      · exact .inl h
      · exact .inr (.inr (.inr h))
  have nd := S.nd
  rw [eA] at nd
  have sub1 : (A1 ++ A2).Nodup := nd.sublist (List.Sublist.append (List.Sublist.refl _) ((List.sublist_append_right bs A2).trans (List.sublist_cons_self _ _)))
  have nd2 : (a :: bs).Nodup := by
    have e1 : A1 ++ a :: (bs ++ A2) = A1 ++ ((a :: bs) ++ A2) := rfl
    rw [e1] at nd
    exact (List.nodup_append.mp (List.nodup_append.mp nd).2.1).1
  have dj : ∀ b ∈ a :: bs, b ∉ A1 ++ A2 := fun b m z => by
    have e1 : A1 ++ a :: (bs ++ A2) = A1 ++ ((a :: bs) ++ A2) := rfl
    rw [e1] at nd
    obtain ⟨_, n2, n3⟩ := List.nodup_append.mp nd
    rcases List.mem_append.mp z with z | z
    · exact n3 b z b (List.mem_append_left _ m) rfl
    · exact (List.nodup_append.mp n2).2.2 b m b z rfl
  have x : Ext w ⟨w.F, w.H, A1 ++ A2⟩ := ⟨fun _ h => h, fun _ _ e _ => e, fun _ h => .inl h, fun b m => .inl ((mem b).mpr (.inr m)), fun _ h => h⟩
  refine ⟨a, bs, A1 ++ A2, ev, x, ⟨r, sub1, fun b m => S.nf b ((mem b).mpr (.inr m)), S.fd⟩, ⟨a, bs, rfl, o, nd2, fun b m => ⟨S.nf b ((mem b).mpr (.inl m)), dj b m, .inl ((mem b).mpr (.inl m))⟩⟩, mem, o, dj, nd2⟩
theorem t_mv {i : Nat} (h : tE c W (evE g (.mv i)) σ H Q) : tVar i σ H Q := by
  obtain ⟨w, s, rfl, S, h⟩ := h
  unfold evE at h
  obtain ⟨x, e, h⟩ := h.getB
  cases x with
  | ow d sub =>
    obtain ⟨a, bs, A', ev, x, S', r, _⟩ := S.take e
    obtain ⟨_, h⟩ := Go.setB h
    exact ⟨_, ev, Go.pure h x S' _ r⟩
  | emp => exact (h.of_bad rfl).elim
  | fz d => exact (h.of_bad rfl).elim
theorem t_cst {d : D} {v : V} (hr : ∀ F H, Rep c F H d v) (h : tE c W (evE g (.cst d)) σ H Q) : tC v σ H Q := by
  obtain ⟨w, s, rfl, S, h⟩ := h
  unfold evE at h
  exact Go.pure h (Ext.refl w) S v (hr _ _)
theorem t_gcst {d : D} {x : Str} {v : V} (hr : ∀ F H, Rep c F H d v) (h : tE c W (evE g (.gcst x d)) σ H Q) : tC v σ H Q := by
  obtain ⟨w, s, rfl, S, h⟩ := h
  unfold evE at h
  exact Go.pure h (Ext.refl w) S v (hr _ _)
theorem Go.keepA {rs : List R} {k : List D → M β} {A : β → Sta → Wd → Prop} (h : Go c W σ (M.opt (keepAll rs) >>= k) w s A) : ∃ ds, keepAll rs = some ds ∧ Go c W σ (k ds) w s A := h.optB
theorem keepAll_len : ∀ {rs : List R} {ds : List D}, keepAll rs = some ds → ds.length = rs.length
  | [], ds, e => by cases e; rfl
  | r :: rs, ds, e => by
    simp only [keepAll, Option.bind_eq_some_iff, Option.map_eq_some_iff] at e
    obtain ⟨d, _, ds', e2, rfl⟩ := e
    rw [List.length_cons, List.length_cons, keepAll_len e2]
theorem RRs.len {w0 w : Wd} {rs : List R} {vs : List V} (h : RRs c w0 w σ rs vs) : rs.length = vs.length := by
  induction h with
  | nil => rfl
  | cons _ _ ih => exact congrArg (· + 1) ih
theorem t_tup {es : CA} (h : tE c W (evE g (.tupE es)) σ H Q) : tTupF (tA c W (evA g es)) σ H Q := by
  obtain ⟨w, s, rfl, S, h⟩ := h
  unfold evE at h
  refine tA.bind S h fun rs s1 w1 vs x S1 R1 G1 => ?_
  obtain ⟨ds, e, G2⟩ := G1.keepA
  obtain ⟨bs, b1, b2, b3⟩ := R1.kept x S1 e
  by_cases hl : ds.length ≤ LIM
  · rw [if_pos hl] at G2
    refine ⟨by rw [← lim_eq, ← R1.len, ← keepAll_len e]; exact hl, ?_⟩
    have S2 := S1.keep b2
    have P : PB c (w1.keep bs) Q (.fz (.tup ds)) := fun w' v gr r => Go.pure G2 ((x.keep b1).trans gr.ext) (gr.sr S2) v r
    exact PB.newT (w := w1.keep bs) S2 P b3
  · rw [if_neg hl] at G2
    exact (G2.of_bad rfl).elim
theorem t_lst {es : CA} (h : tE c W (evE g (.lstE es)) σ H Q) : tLst (tA c W (evA g es)) σ H Q := by
  obtain ⟨w, s, rfl, S, h⟩ := h
  unfold evE at h
  refine tA.bind S h fun rs s1 w1 vs x S1 R1 G1 => ?_
  obtain ⟨ds, e, G2⟩ := G1.keepA
  obtain ⟨bs, b1, b2, b3⟩ := R1.kept x S1 e
  by_cases hl : ds.length ≤ LIM
  · rw [if_pos hl] at G2
    refine ⟨by rw [← lim_eq, ← R1.len, ← keepAll_len e]; exact hl, ?_⟩
    have S2 := S1.keep b2
    have P : PB c (w1.keep bs) Q (.ow (.lst ds)) := PB.of (w0 := w) (s := s1) (br := .ow (.lst ds)) (x.keep b1) S2 (G2.eqM rfl)
    exact PB.newL (w := w1.keep bs) S2 P b3
  · rw [if_neg hl] at G2
    exact (G2.of_bad rfl).elim
theorem t_dic (h : tE c W (evE g .dicE) σ H Q) : tDNewK σ H Q := by
  obtain ⟨w, s, rfl, S, h⟩ := h
  unfold evE at h
  have P : PB c w Q (.ow (.dic [])) := PB.of (w0 := w) (s := s) (br := .ow (.dic [])) (Ext.refl w) S (h.eqM rfl)
  exact P.newD S .nil
/-! argument lists -/
theorem ta_nil {Q : List V → Hp → Prop} (h : tA c W (evA g .nil) σ H Q) : tNil σ H Q := by
  obtain ⟨w, s, rfl, S, h⟩ := h
  unfold evA at h
  exact Go.pure h (Ext.refl w) S _ .nil
theorem ta_cons {e : CE} {r : CA} {Q : List V → Hp → Prop} (h : tA c W (evA g (.cons e r)) σ H Q) : tCons (tE c W (evE g e)) (tA c W (evA g r)) σ H Q := by
  obtain ⟨w, s, rfl, S, h⟩ := h
  unfold evA at h
  refine tE.bind S h fun r1 s1 w1 v x S1 R1 G1 => ?_
  refine tA.bind S1 (G1.up x) fun rs s2 w2 vs y S2 R2 G2 => ?_
  exact Go.pure G2 y S2 _ (.cons (R1.step S1 y) (R2.weak x))
/-! tests -/
theorem t_ite {t : CT} {a b : CE} (h : tE c W (evE g (.ite t a b)) σ H Q) : L2.tIf (tT c W (evT g t)) (tE c W (evE g a)) (tE c W (evE g b)) σ H Q := by
  obtain ⟨w, s, rfl, S, h⟩ := h
  unfold evE at h
  refine tT.bind S h fun k s1 w1 x S1 G1 => ?_
  cases k with
  | true => exact ⟨w1, s1, rfl, S1, Go.wkR x ((G1.eqM rfl).up x)⟩
  | false => exact ⟨w1, s1, rfl, S1, Go.wkR x ((G1.eqM rfl).up x)⟩
theorem RR.bl {w0 : Wd} {b : Bool} {v : V} (h : RR c w0 w σ (.fz (.bl b)) v) : v = .bl b := by cases h; rfl
theorem t_and {a b : CE} (h : tE c W (evE g (.and a b)) σ H Q) : tAndV (tE c W (evE g a)) (tE c W (evE g b)) σ H Q := by
  obtain ⟨w, s, rfl, S, h⟩ := h
  unfold evE at h
  refine tE.bind S h fun r s1 w1 v x S1 R1 G1 => ?_
  cases r with
  | fz d =>
    cases d with
    | bl k =>
      refine ⟨k, R1.bl, ?_⟩
      cases k with
      | true => exact ⟨w1, s1, rfl, S1, Go.wkR x ((G1.eqM rfl).up x)⟩
      | false => exact Go.pure (a := R.fz (.bl false)) (G1.eqM rfl) x S1 _ (Rep.bl false)
    | _ => exact (G1.of_bad rfl).elim
  | _ => exact (G1.of_bad rfl).elim
theorem t_or {a b : CE} (h : tE c W (evE g (.or a b)) σ H Q) : tOrV (tE c W (evE g a)) (tE c W (evE g b)) σ H Q := by
  obtain ⟨w, s, rfl, S, h⟩ := h
  unfold evE at h
  refine tE.bind S h fun r s1 w1 v x S1 R1 G1 => ?_
  cases r with
  | fz d =>
    cases d with
    | bl k =>
      refine ⟨k, R1.bl, ?_⟩
      cases k with
      | false => exact ⟨w1, s1, rfl, S1, Go.wkR x ((G1.eqM rfl).up x)⟩
      | true => exact Go.pure (a := R.fz (.bl true)) (G1.eqM rfl) x S1 _ (Rep.bl true)
    | _ => exact (G1.of_bad rfl).elim
  | _ => exact (G1.of_bad rfl).elim
theorem t_not {a : CE} (h : tE c W (evE g (.not a)) σ H Q) : tNotV (tE c W (evE g a)) σ H Q := by
  obtain ⟨w, s, rfl, S, h⟩ := h
  unfold evE at h
  refine tE.bind S h fun r s1 w1 v x S1 R1 G1 => ?_
  cases r with
  | fz d =>
    cases d with
    | bl k => exact ⟨k, R1.bl, Go.pure (a := R.fz (.bl (!k))) (G1.eqM rfl) x S1 _ (Rep.bl _)⟩
    | _ => exact (G1.of_bad rfl).elim
  | _ => exact (G1.of_bad rfl).elim
theorem tt_tt {Q : Bool → Hp → Prop} (h : tT c W (evT g .tt) σ H Q) : tYes σ H Q := by
  obtain ⟨w, s, rfl, S, h⟩ := h
  unfold evT at h
  exact Go.pure h (Ext.refl w) S
theorem tt_not {t : CT} {Q : Bool → Hp → Prop} (h : tT c W (evT g (.not t)) σ H Q) : L2.tNot (tT c W (evT g t)) σ H Q := by
  obtain ⟨w, s, rfl, S, h⟩ := h
  unfold evT at h
  exact tT.bind S h fun k s1 w1 x S1 G1 => Go.pure G1 x S1
theorem tt_and {a b : CT} {Q : Bool → Hp → Prop} (h : tT c W (evT g (.and a b)) σ H Q) : L2.tAnd (tT c W (evT g a)) (tT c W (evT g b)) σ H Q := by
  obtain ⟨w, s, rfl, S, h⟩ := h
  unfold evT at h
  refine tT.bind S h fun k s1 w1 x S1 G1 => ?_
  cases k with
  | true => exact ⟨w1, s1, rfl, S1, (G1.eqM rfl).up x⟩
  | false => exact Go.pure (a := false) (G1.eqM rfl) x S1
theorem tt_or {a b : CT} {Q : Bool → Hp → Prop} (h : tT c W (evT g (.or a b)) σ H Q) : L2.tOr (tT c W (evT g a)) (tT c W (evT g b)) σ H Q := by
  obtain ⟨w, s, rfl, S, h⟩ := h
  unfold evT at h
  refine tT.bind S h fun k s1 w1 x S1 G1 => ?_
  cases k with
  | false => exact ⟨w1, s1, rfl, S1, (G1.eqM rfl).up x⟩
  | true => exact Go.pure (a := true) (G1.eqM rfl) x S1
theorem t_ch {c1 c2 : Cm} {a b e : CE} {r1 r2 : R2} (h1 : B2 c (.cm c1) r1) (h2 : B2 c (.cm c2) r2) (h : tE c W (evE g (.chain c1 c2 a b e)) σ H Q) :
    tChain r1 r2 (tE c W (evE g a)) (tE c W (evE g b)) (tE c W (evE g e)) σ H Q := by
  obtain ⟨w, s, rfl, S, h⟩ := h
  unfold evE at h
  refine tE.bind S h fun x s1 w1 vx X1 S1 R1 G1 => ?_
  refine tE.bind S1 (G1.up X1) fun y s2 w2 vy X2 S2 R2 G2 => ?_
  obtain ⟨ds, e0, G3⟩ := G2.readsB
  obtain ⟨d, d', rfl, e1, e2⟩ := rdAll2 e0
  refine h1 w2 s2 σ d d' vx vy _ S2 ((R1.step S1 X2).wr S2 e1) (R2.wr S2 e2) ?_
  have eb : evBI (.cm c1) [d, d'] = .b (cmD c1 d d') := rfl
  rw [eb] at G3 ⊢
  cases ec : cmD c1 d d' with
  | none => rw [ec] at G3; exact (G3.of_bad rfl).elim
  | some k =>
    rw [ec] at G3
    intro w3 v gr rv
    cases rv
    refine ⟨k, rfl, ?_⟩
    have S3 := gr.sr S2
    cases k with
    | false => exact Go.pure (a := R.fz (.bl false)) (G3.eqM rfl) (X2.trans gr.ext) S3 _ (Rep.bl false)
    | true =>
      have G4 : Go c W σ (evE g e >>= fun z => reads [y, z] >>= fun ds => ofBR (evBI (.cm c2) ds)) w1 s2 _ := G3.eqM rfl
      rw [if_pos rfl]
      refine tE.bind S3 (G4.up (X2.trans gr.ext)) fun z s4 w4 vz X4 S4 R4 G5 => ?_
      obtain ⟨ds', e3, G6⟩ := G5.readsB
      obtain ⟨p, q, rfl, e4, e5⟩ := rdAll2 e3
      have y3 : RR c w1 w3 σ y vy := (R2.step S2 gr.ext)
      exact h2 w4 s4 σ p q vy vz Q S4 ((y3.step S3 X4).wr S4 e4) (R4.wr S4 e5) (PB.of X4 S4 (G6.imp fun r s' w' _ _ q v' rr => q v' (rr.weak (X1.trans (X2.trans gr.ext)))))
/-- a value's truth -/
theorem WR.tru {d : D} {v : V} {k : Bool} (h : WR c w d v) (e : truD d = some k) : TruV c.K v w.H k := by
  have em : ∀ {ds : List D} {vs : List V}, Reps c w.F w.H ds vs → vs.isEmpty = ds.isEmpty := fun r => by cases r <;> rfl
  have ek : ∀ {ds : List (Key × D)} {vs : List (Key × V)}, RepK c w.F w.H ds vs → vs.isEmpty = ds.isEmpty := fun r => by cases r <;> rfl
  cases d with
  | non => cases e; rw [h.non]; exact rfl
  | bl b => cases e; rw [h.bl]; exact rfl
  | int b => cases e; rw [h.int]; exact rfl
  | str b =>
    have e : (if b.length ≤ LIM then some ((b.length : Int) != 0) else none) = some k := e
    by_cases hl : b.length ≤ LIM
    · rw [if_pos hl] at e
      cases e
      rw [h.str]
      exact ⟨by rw [← lim_eq]; exact hl, rfl⟩
    · rw [if_neg hl] at e; cases e
  | tup ds =>
    cases e
    obtain ⟨a, o, vs, rfl, _, ha, _, r⟩ := h.tup
    exact .inr (.inl ⟨vs, sqT ha, by rw [em r]⟩)
  | lst ds =>
    cases e
    obtain ⟨a, vs, rfl, ha, r⟩ := h.lst
    exact .inl ⟨vs, SqL.of ha, by rw [em r]⟩
  | dic ds =>
    cases e
    obtain ⟨a, vs, rfl, ha, r⟩ := h.dic
    exact .inr (.inr ⟨vs, ha, by rw [ek r]⟩)
  | _ => cases e
theorem tt_val {e : CE} {Q : Bool → Hp → Prop} (h : tT c W (evT g (.val e)) σ H Q) : tE c W (evE g e) σ H (fun v H1 => ∃ k, TruV c.K v H1 k ∧ Q k H1) := by
  obtain ⟨w, s, rfl, S, h⟩ := h
  unfold evT at h
  refine tE.bind S h fun r s1 w1 v x S1 R1 G1 => ?_
  cases e1 : (rdR s1 r).bind truD with
  | none => exact (G1.of_bad (by simp [e1])).elim
  | some k =>
    have q := Go.of_ok G1 (a := k) (s1 := s1) (by simp [e1]) x S1
    rw [Option.bind_eq_some_iff] at e1
    obtain ⟨d, e2, e3⟩ := e1
    exact ⟨k, (R1.wr S1 e2).tru e3, q⟩
/-! slices -/
theorem slc_go {lo hi : Bool} {x : D} {r : List D} {l h : Option Int} (e : slOf lo hi r = some (l, h)) {Q : VK} (p : PB c w Q (evBI (.slc lo hi) (x :: r))) :
    PB c w Q (cutD l h x) := by
  cases x with
  | tup xs =>
    have e1 : evBI (.slc lo hi) (.tup xs :: r) = (match slOf lo hi r with | some (l, h) => .fz (.tup (cut xs l h)) | none => .bad) := rfl
    rw [e1, e] at p
    exact p
  | lst xs =>
    have e1 : evBI (.slc lo hi) (.lst xs :: r) = (match slOf lo hi r with | some (l, h) => .ow (.lst (cut xs l h)) | none => .bad) := rfl
    rw [e1, e] at p
    exact p
  | _ => exact p.elim
theorem b_slc01 : B2 c (.slc false true) (fun x y H Q => ∃ i, y = .int i ∧ rSlA' c.K x none (some i) H Q) := by
  intro w s σ d e v u Q S h1 h2 p
  cases e with
  | int i => exact ⟨i, h2.int, b_slc S h1 (slc_go (l := none) (h := some i) rfl p)⟩
  | _ => cases d <;> exact p.elim
theorem b_slc10 : B2 c (.slc true false) (fun x y H Q => ∃ i, y = .int i ∧ rSlA' c.K x (some i) none H Q) := by
  intro w s σ d e v u Q S h1 h2 p
  cases e with
  | int i => exact ⟨i, h2.int, b_slc S h1 (slc_go (l := some i) (h := none) rfl p)⟩
  | _ => cases d <;> exact p.elim
theorem b_slc00 : B1 c (.slc false false) (fun x H Q => rSlA' c.K x none none H Q) := by
  intro w s σ d v Q S h1 p
  exact b_slc S h1 (slc_go (l := none) (h := none) rfl p)
/-- an operation on three values -/
def B3 (c : Cn) (b : BI) (r : V → V → V → Hp → VK → Prop) : Prop := ∀ (w : Wd) (s : Sta) (σ : St) (d e f : D) (v u z : V) (Q : VK), SR c w s.fr σ → WR c w d v → WR c w e u → WR c w f z → PB c w Q (evBI b [d, e, f]) → r v u z w.H Q
theorem bi3 {b : BI} {ca cb cc : CE} {r : V → V → V → Hp → VK → Prop} (hb : B3 c b r) (h : tE c W (evE g (.bi b (.cons ca (.cons cb (.cons cc .nil))))) σ H Q) :
    tE c W (evE g ca) σ H fun x H1 => tE c W (evE g cb) σ H1 fun y H2 => tE c W (evE g cc) σ H2 fun z H3 => r x y z H3 Q := by
  obtain ⟨w, s, rfl, S, h⟩ := h
  unfold evE evA at h
  refine tE.bind S h.assoc fun r1 s1 w1 v x S1 R1 G1 => ?_
  have G2 : Go c W σ (evE g cb >>= fun y => evE g cc >>= fun z => reads [r1, y, z] >>= fun ds => ofBR (evBI b ds)) w s1 _ := G1.eqM (by
    unfold evA evA
    show M.bind (M.bind (M.bind (evE g cb) _) _) _ s1 = M.bind _ _ s1
    unfold M.bind
    cases evE g cb s1 with
    | bad => rfl
    | exc _ _ _ => rfl
    | ok y s2 =>
      show M.bind (M.bind (M.bind (M.bind (evE g cc) _) _) _) _ s2 = M.bind _ _ s2
      unfold M.bind
      cases evE g cc s2 <;> rfl)
  refine tE.bind S1 (G2.up x) fun r2 s2 w2 u y S2 R2 G3 => ?_
  refine tE.bind S2 (G3.up y) fun r3 s3 w3 z X3 S3 R3 G4 => ?_
  obtain ⟨ds, e, G5⟩ := G4.readsB
  obtain ⟨d, d', d'', rfl, e1, e2, e3⟩ := rdAll3 e
  exact hb w3 s3 σ d d' d'' v u z Q S3 (((R1.step S1 y).step S2 X3).wr S3 e1) ((R2.step S2 X3).wr S3 e2) (R3.wr S3 e3) (PB.of X3 S3 (G5.imp fun r s' w' _ _ q v' rr => q v' (rr.weak (x.trans y))))
theorem b_slc11 : B3 c (.slc true true) (fun x y z H Q => ∃ i, y = .int i ∧ ∃ j, z = .int j ∧ rSlA' c.K x (some i) (some j) H Q) := by
  intro w s σ d e f v u z Q S h1 h2 h3 p
  cases e with
  | int i =>
    cases f with
    | int j => exact ⟨i, h2.int, j, h3.int, b_slc S h1 (slc_go (l := some i) (h := some j) rfl p)⟩
    | _ => cases d <;> exact p.elim
  | _ => cases d <;> exact p.elim
/-! fields -/
theorem RepF.at {F : Addr → Prop} {H : Hp} : ∀ {ns : List Str} {ds : List D} {fs : List (Str × V)}, RepF c F H ns ds fs → ∀ {k : Nat} {d : D}, ns.Nodup → ds[k]? = some d → ∃ f v, ns[k]? = some f ∧ fs.lookup f = some v ∧ Rep c F H d v
  | _, _, _, .nil, _, _, _, e => by simp at e
  | _, _, _, .cons (n := n) (ns := ns) h r, k, d, nd, e => by
    cases k with
    | zero =>
      simp at e; subst e
      exact ⟨n, _, rfl, by simp [List.lookup_cons], h⟩
    | succ k =>
      obtain ⟨n1, n2⟩ := List.nodup_cons.mp nd
      obtain ⟨f, v, e1, e2, e3⟩ := RepF.at r (k := k) n2 (by simpa using e)
      have ne : (f == n) = false := by
        rw [beq_eq_false_iff_ne]
        rintro rfl
        exact n1 (List.mem_of_getElem? e1)
      exact ⟨f, v, by simpa using e1, by simp only [List.lookup_cons, ne]; exact e2, e3⟩
theorem OwnF.at {F : Addr → Prop} {H : Hp} {ns : List Str} {ds : List D} {fs : List (Str × V)} {i : Nat} {sub : List Nat} {bs : List Addr} (r : OwnF c F H ns ds fs i sub bs) : ∀ {k : Nat} {d : D}, ns.Nodup → i + k ∉ sub → ds[k]? = some d →
    ∃ f v, ns[k]? = some f ∧ fs.lookup f = some v ∧ Rep c F H d v := by
  have step : ∀ {n : Str} {ns : List Str} {k : Nat} {d : D} {v0 : V} {vs : List (Str × V)}, (n :: ns).Nodup → (∃ f v, ns[k]? = some f ∧ vs.lookup f = some v ∧ Rep c F H d v) → ∃ f v, (n :: ns)[k + 1]? = some f ∧ ((n, v0) :: vs).lookup f = some v ∧ Rep c F H d v := by
    rintro n ns k d v0 vs nd ⟨f, v, e1, e2, e3⟩
    obtain ⟨n1, n2⟩ := List.nodup_cons.mp nd
    have ne : (f == n) = false := by
      rw [beq_eq_false_iff_ne]
      rintro rfl
      exact n1 (List.mem_of_getElem? e1)
    exact ⟨f, v, by simpa using e1, by simp only [List.lookup_cons, ne]; exact e2, e3⟩
  induction r with
  | nil => intro k d _ _ e; simp at e
  | @fz n ns d0 v0 ds vs i sub bs o h r ih =>
    intro k d nd ni e
    cases k with
    | zero =>
      simp at e; subst e
      exact ⟨n, _, rfl, by simp [List.lookup_cons], h⟩
    | succ k => exact step nd (ih (List.nodup_cons.mp nd).2 (by rw [Nat.add_assoc, Nat.add_comm 1]; exact ni) (by simpa using e))
  | @ow n ns b es us ds vs i sub bs o h q r ih =>
    intro k d nd ni e
    cases k with
    | zero => exact absurd o ni
    | succ k => exact step nd (ih (List.nodup_cons.mp nd).2 (by rw [Nat.add_assoc, Nat.add_comm 1]; exact ni) (by simpa using e))
/-- the k-th field, read -/
theorem ldF_at {w0 : Wd} {r : R} {v : V} {cc k : Nat} {d : D} (S : SR c w s.fr σ) (nd : (c.fl cc).Nodup) (R1 : RR c w0 w σ r v) (e : ldF s r cc k = some d) :
    ∃ a dx fs f u, v = .ref a ∧ w.H a = some (.ins (c.C cc) dx fs) ∧ (c.fl cc)[k]? = some f ∧ fs.lookup f = some u ∧ Rep c w.F w.H d u := by
  have own : ∀ {d0 : D} {sub : List Nat} {a : Addr} {bs : List Addr}, Own c w.F w.H d0 sub a bs → insF cc k d0 sub = some d → ∃ dx fs f u, w.H a = some (.ins (c.C cc) dx fs) ∧ (c.fl cc)[k]? = some f ∧ fs.lookup f = some u ∧ Rep c w.F w.H d u := by
    intro d0 sub a bs o e
    cases o with
    | lst _ _ => cases e
    | dic _ _ => cases e
    | @ins a dx k0 fs ds sub bs h r =>
      have e' : (if k0 = cc ∧ k ∉ sub then ds[k]? else none) = some d := e
      by_cases hc : k0 = cc ∧ k ∉ sub
      · rw [if_pos hc] at e'
        obtain ⟨rfl, hk⟩ := hc
        obtain ⟨f, u, e1, e2, e3⟩ := r.at nd (by rw [Nat.zero_add]; exact hk) e'
        exact ⟨dx, fs, f, u, h, e1, e2, e3⟩
      · rw [if_neg hc] at e'; cases e'
  cases r with
  | fz d0 =>
    have e : insF cc k d0 [] = some d := e
    have R1 : Rep c w.F w.H d0 v := R1
    cases d0 with
    | ins k0 ds =>
      cases R1 with
      | @ins a dx _ fs _ f h r =>
        have e' : (if k0 = cc ∧ k ∉ ([] : List Nat) then ds[k]? else none) = some d := e
        by_cases hc : k0 = cc ∧ k ∉ ([] : List Nat)
        · rw [if_pos hc] at e'
          obtain ⟨rfl, _⟩ := hc
          obtain ⟨f, u, e1, e2, e3⟩ := r.at nd e'
          exact ⟨a, dx, fs, f, u, rfl, h, e1, e2, e3⟩
        · rw [if_neg hc] at e'; cases e'
    | _ => cases e
  | ow d0 sub =>
    obtain ⟨a, bs, ev, o, _⟩ := R1
    obtain ⟨dx, fs, f, u, z⟩ := own o e
    exact ⟨a, dx, fs, f, u, ev, z⟩
  | bo i =>
    simp only [ldF] at e
    split at e
    · rename_i d0 sub q
      obtain ⟨a, bs, _, _, h1, h2, _⟩ := S.rel.getO q
      have R1 : σ[i]? = some (some v) := R1
      rw [h1] at R1
      cases R1
      obtain ⟨dx, fs, f, u, z⟩ := own h2 e
      exact ⟨a, dx, fs, f, u, rfl, z⟩
    · cases e
theorem t_fld {a : CE} {cc k : Nat} {f : Str} (nd : (c.fl cc).Nodup) (hf : (c.fl cc)[k]? = some f) (hC : Cls c.K (c.C cc)) (hN : NoAttr c.K (c.C cc) f) (h : tE c W (evE g (.fld a cc k)) σ H Q) : tFld c.K (tE c W (evE g a)) f σ H Q := by
  obtain ⟨w, s, rfl, S, h⟩ := h
  unfold evE at h
  refine tE.bind S h fun r s1 w1 v x S1 R1 G1 => ?_
  cases e : ldF s1 r cc k with
  | none => exact (G1.of_bad (by simp [e])).elim
  | some d =>
    obtain ⟨b, dx, fs, f', u, ev, hb, e1, e2, e3⟩ := ldF_at S1 nd R1 e
    rw [hf] at e1
    cases e1
    exact ⟨b, c.C cc, dx, fs, u, ev, hb, hC, hN, e2, Go.of_ok G1 (a := R.fz d) (s1 := s1) (by simp [e]) x S1 u e3⟩
end
end Mi

set_option Elab.async false
set_option linter.all false
set_option maxRecDepth 100000
set_option maxHeartbeats 2000000
/-! Mi: methods of built-in types. -/
namespace Mi
open PySem L2
inductive WRL (c : Cn) (w : Wd) : List D → List V → Prop
  | nil : WRL c w [] []
  | cons {d : D} {v : V} {ds : List D} {vs : List V} (h : WR c w d v) (t : WRL c w ds vs) : WRL c w (d :: ds) (v :: vs)
section
variable {c : Cn} {W : XW} {g : G} {σ : St} {H : Hp} {Q : VK} {w w0 w1 : Wd} {s : Sta} {X : Cx}
theorem RRs.wr (S : SR c w s.fr σ) {rs : List R} {vs : List V} (h : RRs c w0 w σ rs vs) : ∀ {ds : List D}, rdAll s rs = some ds → WRL c w ds vs := by
  induction h with
  | nil => intro ds e; cases e; exact .nil
  | cons h _ ih =>
    intro ds e
    simp only [rdAll, Option.bind_eq_some_iff, Option.map_eq_some_iff] at e
    obtain ⟨d, e1, ds', e2, rfl⟩ := e
    exact .cons (h.wr S e1) (ih e2)
/-- a method of that name, by the kind of its receiver -/
def BMs (c : Cn) (X : Cx) (b : BI) (name : Str) : Prop := ∀ k, bmOk b k = true → ∃ T id r, BmF X name T id r ∧ (∀ (w : Wd) (d : D) (v : V), WR c w d v → tag d = k → tyF c.K T v w.H) ∧
  ∀ (w : Wd) (s : Sta) (σ : St) (d : D) (ds : List D) (v : V) (vs : List V) (Q : VK), SR c w s.fr σ → WR c w d v → tag d = k → WRL c w ds vs → PB c w Q (evBI b (d :: ds)) → r v vs w.H Q
theorem t_bm {b : BI} {name : Str} {o : CE} {es : CA} (hK : X.K = c.K) (hb : BMs c X b name) (h : tE c W (evE g (.bm b o es)) σ H Q) : tBMF X name (tE c W (evE g o)) (tA c W (evA g es)) σ H Q := by
  obtain ⟨w, s, rfl, S, h⟩ := h
  unfold evE at h
  refine tE.bind S h fun r1 s1 w1 v x S1 R1 G1 => ?_
  cases e1 : rdR s1 r1 with
  | none => exact (G1.badB (by simp [tagM, e1])).elim
  | some d1 =>
    have G2 := G1.okB (a := tag d1) (s1 := s1) (by simp [tagM, e1])
    by_cases hk : bmOk b (tag d1) = true
    · rw [if_pos hk] at G2
      obtain ⟨T, id, r, h1, h2, h3⟩ := hb _ hk
      refine ⟨T, id, r, h1, by rw [hK]; exact h2 w1 d1 v (R1.wr S1 e1) rfl, ?_⟩
      refine tA.bind S1 (G2.up x) fun rs s2 w2 vs y S2 R2 G3 => ?_
      obtain ⟨ds, e2, G4⟩ := G3.readsB
      simp only [rdAll, Option.bind_eq_some_iff, Option.map_eq_some_iff] at e2
      obtain ⟨d, e3, ds', e4, rfl⟩ := e2
      have W1 := (R1.step S1 y).wr S2 e3
      have P := PB.of y S2 (G4.imp fun r s' w' _ _ q v' rr => q v' (rr.weak x))
      have e5 : evBM (tag d1) b (d :: ds') = if tag d = tag d1 then evBI b (d :: ds') else .bad := rfl
      rw [e5] at P
      by_cases ht : tag d = tag d1
      · rw [if_pos ht] at P
        exact h3 w2 s2 σ d ds' v vs Q S2 W1 ht (R2.wr S2 e4) P
      · rw [if_neg ht] at P; exact P.elim
    · rw [if_neg hk] at G2
      exact (G2.of_bad rfl).elim
theorem WRL.one {ds : List D} {vs : List V} (h : WRL c w ds vs) {e : D} (q : ds = [e]) : ∃ u, vs = [u] ∧ WR c w e u := by
  subst q
  cases h with
  | cons h t => cases t; exact ⟨_, rfl, h⟩
theorem WRL.two {ds : List D} {vs : List V} (h : WRL c w ds vs) {e f : D} (q : ds = [e, f]) : ∃ u z, vs = [u, z] ∧ WR c w e u ∧ WR c w f z := by
  subst q
  cases h with
  | cons h t =>
    obtain ⟨z, rfl, k⟩ := t.one rfl
    exact ⟨_, z, rfl, h, k⟩
theorem cnt_fl {d : D} (o : flatD d = true) : ∀ {ds : List D}, ds.all flatD = true → ((ds.map flW).countP fun z => eqV z (flW d)) = ds.countP fun y => eqN 0 y d
  | [], _ => rfl
  | e :: ds, p => by
    rw [List.all_cons, Bool.and_eq_true] at p
    rw [List.map_cons, List.countP_cons, List.countP_cons, flW_eq p.1 o, cnt_fl o p.2]
theorem idx_fl {d : D} (o : flatD d = true) : ∀ {ds : List D} {j : Nat}, ds.all flatD = true → (ds.findIdx? fun y => eqN 0 y d) = some j → first (ds.map flW) (flW d) j
  | [], j, _, e => by simp at e
  | e0 :: ds, j, p, e => by
    rw [List.all_cons, Bool.and_eq_true] at p
    rw [List.findIdx?_cons] at e
    by_cases h : eqN 0 e0 d = true
    · rw [if_pos h] at e
      cases e
      exact ⟨flW e0, rfl, by rw [flW_eq p.1 o]; exact h, fun m z' l _ => absurd l (Nat.not_lt_zero _)⟩
    · rw [if_neg h, Option.map_eq_some_iff] at e
      obtain ⟨j', e, rfl⟩ := e
      obtain ⟨z, h1, h2, h3⟩ := idx_fl o p.2 e
      refine ⟨z, by simpa using h1, h2, fun m z' l q => ?_⟩
      cases m with
      | zero =>
        simp at q
        subst q
        rw [flW_eq p.1 o]
        exact Bool.eq_false_iff.mpr h
      | succ m => exact h3 m z' (Nat.lt_of_succ_lt_succ l) (by simpa using q)
theorem tag_lst {d : D} (h : tag d = 6) : ∃ xs, d = .lst xs := by cases d <;> first | (exact ⟨_, rfl⟩) | cases h
theorem tag_tup {d : D} (h : tag d = 5) : ∃ xs, d = .tup xs := by cases d <;> first | (exact ⟨_, rfl⟩) | cases h
theorem tag_dic {d : D} (h : tag d = 7) : ∃ xs, d = .dic xs := by cases d <;> first | (exact ⟨_, rfl⟩) | cases h
theorem ty_lst (w : Wd) (d : D) (v : V) (h : WR c w d v) (e : tag d = 6) : tyF c.K "list" v w.H := by
  obtain ⟨xs, rfl⟩ := tag_lst e
  obtain ⟨a, vs, rfl, ha, _⟩ := h.lst
  exact .inl (.inl ⟨rfl, vs, SqL.of ha⟩)
theorem ty_tup (w : Wd) (d : D) (v : V) (h : WR c w d v) (e : tag d = 5) : tyF c.K "tuple" v w.H := by
  obtain ⟨xs, rfl⟩ := tag_tup e
  obtain ⟨a, o, vs, rfl, _, ha, no, _⟩ := h.tup
  exact .inr ⟨a, o, vs, rfl, rfl, ha, no⟩
theorem ty_dic (w : Wd) (d : D) (v : V) (h : WR c w d v) (e : tag d = 7) : tyF c.K "dict" v w.H := by
  obtain ⟨xs, rfl⟩ := tag_dic e
  obtain ⟨a, vs, rfl, ha, _⟩ := h.dic
  exact .inl (.inr (.inr (.inl ⟨rfl, .inl ⟨vs, ha⟩⟩)))
theorem bm_count (hK : X.K = c.K) : BMs c X .count "count" := by
  intro k hk
  have hk : (k == 5 || k == 6) = true := hk
  simp only [Bool.or_eq_true, beq_iff_eq] at hk
  rcases hk with rfl | rfl
  · refine ⟨"tuple", "tuple.count", _, ⟨PySem.F.plainAttrs_tuple, PySem.F.slot_tuple_count, PySem.F.type_tuple_count, mt_countT⟩, ty_tup, ?_⟩
    intro w s σ d ds v vs Q S h e hl p
    obtain ⟨xs, rfl⟩ := tag_tup e
    match ds, hl, p with
    | [x], hl, p =>
      obtain ⟨u, rfl, hu⟩ := hl.one rfl
      obtain ⟨a, o, ys, rfl, _, ha, no, r⟩ := h.tup
      have p : PB c w Q (match countEq x xs with | some n => .fz (.int n) | none => .bad) := p
      unfold countEq at p
      by_cases hf : (flatD x && xs.all flatD) = true
      · rw [if_pos hf] at p
        rw [Bool.and_eq_true] at hf
        have ev := hu.fl hf.1
        have es := reps_fl r hf.2
        subst ev es
        exact ⟨a, o, _, _, rfl, rfl, ha, no, ⟨flW_flat x, all_fl xs⟩, by rw [cnt_fl hf.1 hf.2]; exact p.sc S (.int _)⟩
      · rw [if_neg hf] at p; exact p.elim
    | [], _, p => exact p.elim
    | _ :: _ :: _, _, p => exact p.elim
  · refine ⟨"list", "list.count", _, ⟨PySem.F.plainAttrs_list, PySem.F.slot_list_count, PySem.F.type_list_count, mt_countL⟩, ty_lst, ?_⟩
    intro w s σ d ds v vs Q S h e hl p
    obtain ⟨xs, rfl⟩ := tag_lst e
    match ds, hl, p with
    | [x], hl, p =>
      obtain ⟨u, rfl, hu⟩ := hl.one rfl
      obtain ⟨a, ys, rfl, ha, r⟩ := h.lst
      have p : PB c w Q (match countEq x xs with | some n => .fz (.int n) | none => .bad) := p
      unfold countEq at p
      by_cases hf : (flatD x && xs.all flatD) = true
      · rw [if_pos hf] at p
        rw [Bool.and_eq_true] at hf
        have ev := hu.fl hf.1
        have es := reps_fl r hf.2
        subst ev es
        exact ⟨a, _, _, rfl, rfl, by rw [hK]; exact SqL.of ha, ⟨flW_flat x, all_fl xs⟩, by rw [cnt_fl hf.1 hf.2]; exact p.sc S (.int _)⟩
      · rw [if_neg hf] at p; exact p.elim
    | [], _, p => exact p.elim
    | _ :: _ :: _, _, p => exact p.elim
theorem bm_index (hK : X.K = c.K) : BMs c X .index "index" := by
  intro k hk
  have hk : (k == 5 || k == 6) = true := hk
  simp only [Bool.or_eq_true, beq_iff_eq] at hk
  rcases hk with rfl | rfl
  · refine ⟨"tuple", "tuple.index", _, ⟨PySem.F.plainAttrs_tuple, PySem.F.slot_tuple_index, PySem.F.type_tuple_index, mt_indexT⟩, ty_tup, ?_⟩
    intro w s σ d ds v vs Q S h e hl p
    obtain ⟨xs, rfl⟩ := tag_tup e
    match ds, hl, p with
    | [x], hl, p =>
      obtain ⟨u, rfl, hu⟩ := hl.one rfl
      obtain ⟨a, o, ys, rfl, _, ha, no, r⟩ := h.tup
      have p : PB c w Q (match findEq x xs with | some n => .fz (.int n) | none => .bad) := p
      unfold findEq at p
      by_cases hf : (flatD x && xs.all flatD) = true
      · rw [if_pos hf] at p
        rw [Bool.and_eq_true] at hf
        have ev := hu.fl hf.1
        have es := reps_fl r hf.2
        subst ev es
        cases q : xs.findIdx? fun y => eqN 0 y x with
        | none => rw [q] at p; exact p.elim
        | some j =>
          rw [q] at p
          exact ⟨a, o, _, _, j, rfl, rfl, ha, no, ⟨flW_flat x, all_fl xs⟩, idx_fl hf.1 hf.2 q, p.sc S (.int _)⟩
      · rw [if_neg hf] at p; exact p.elim
    | [], _, p => exact p.elim
    | _ :: _ :: _, _, p => exact p.elim
  · refine ⟨"list", "list.index", _, ⟨PySem.F.plainAttrs_list, PySem.F.slot_list_index, PySem.F.type_list_index, mt_index⟩, ty_lst, ?_⟩
    intro w s σ d ds v vs Q S h e hl p
    obtain ⟨xs, rfl⟩ := tag_lst e
    match ds, hl, p with
    | [x], hl, p =>
      obtain ⟨u, rfl, hu⟩ := hl.one rfl
      obtain ⟨a, ys, rfl, ha, r⟩ := h.lst
      have p : PB c w Q (match findEq x xs with | some n => .fz (.int n) | none => .bad) := p
      unfold findEq at p
      by_cases hf : (flatD x && xs.all flatD) = true
      · rw [if_pos hf] at p
        rw [Bool.and_eq_true] at hf
        have ev := hu.fl hf.1
        have es := reps_fl r hf.2
        subst ev es
        cases q : xs.findIdx? fun y => eqN 0 y x with
        | none => rw [q] at p; exact p.elim
        | some j =>
          rw [q] at p
          obtain ⟨z, f1, f2, f3⟩ := idx_fl hf.1 hf.2 q
          exact ⟨a, _, _, j, z, rfl, rfl, by rw [hK]; exact SqL.of ha, flW_flat x, all_fl xs, f1, f2, f3, p.sc S (.int _)⟩
      · rw [if_neg hf] at p; exact p.elim
    | [], _, p => exact p.elim
    | _ :: _ :: _, _, p => exact p.elim
theorem mt_get2 (hu : X.A.units + 1 < cLine) : MtR X "dict.get" (fun x xs H Q => ∃ a y z o, x = .ref a ∧ xs = [y, z] ∧ DGet H a y o ∧ Q (o.getD z) H) := by
  intro pins s σ H x xs v us Q I rx rxs h
  obtain ⟨a, y, z, o, rfl, rfl, gd, q⟩ := h
  cases rx
  obtain ⟨uy, uz, e0, ry, rz⟩ := vals2 rxs
  subst e0
  exact d_get2 hu I gd ry rz fun w' s' I' r' => ⟨_, H, I', r', q⟩
theorem rep_flW {F : Addr → Prop} {H : Hp} {d : D} (h : flatD d = true) : Rep c F H d (flW d) := by
  cases d <;> first | (cases h; done) | constructor
theorem bm_get (hK : X.K = c.K) (hu : X.A.units + 1 < cLine) : BMs c X .getD "get" := by
  intro k hk
  have hk : (k == 7) = true := hk
  rw [beq_iff_eq] at hk
  subst hk
  refine ⟨"dict", "dict.get", _, ⟨PySem.F.plainAttrs_dict, PySem.F.slot_dict_get, PySem.F.type_dict_get, mt_get2 hu⟩, ty_dic, ?_⟩
  intro w s σ d ds v vs Q S h e hl p
  obtain ⟨kvs, rfl⟩ := tag_dic e
  match ds, hl, p with
  | [x, y], hl, p =>
    obtain ⟨u, z, rfl, hu, hz⟩ := hl.two rfl
    obtain ⟨a, ys, rfl, ha, r⟩ := h.dic
    have p : PB c w Q (match keyOf x, flatD y with | some k, true => .fz ((dget kvs k).getD y) | _, _ => .bad) := p
    cases ek : keyOf x with
    | none => rw [ek] at p; exact p.elim
    | some k =>
      cases fy : flatD y with
      | false => rw [ek, fy] at p; exact p.elim
      | true =>
        rw [ek, fy] at p
        have p : PB c w Q (.fz ((dget kvs k).getD y)) := p
        have ez := hz.fl fy
        subst ez
        refine ⟨a, u, flW y, valV ys k, rfl, rfl, ?_, ?_⟩
        · rw [keyOf_w hu ek]; exact DGet.k ha
        · obtain ⟨r1, r2⟩ := r.get (k := k)
          cases q : dget kvs k with
          | none =>
            rw [q] at p
            rw [r2 q]
            exact p.sc S (rep_flW fy)
          | some d0 =>
            rw [q] at p
            obtain ⟨v0, e0, rv⟩ := r1 d0 q
            rw [e0]
            exact p.sc S rv
  | [], _, p => exact p.elim
  | [_], _, p => exact p.elim
  | _ :: _ :: _ :: _, _, p => exact p.elim
end
end Mi

set_option Elab.async false
set_option linter.all false
set_option maxRecDepth 100000
set_option maxHeartbeats 2000000
/-! Mi: calls: what is lent, what comes back. -/
namespace Mi
open PySem L2
/-! ### lending -/
section
variable {c : Cn} {F F' : Addr → Prop} {H H' : Hp} {σ : St}
/-- an argument, as the callee takes it -/
inductive AR (c : Cn) (F : Addr → Prop) (H : Hp) (fr : List Slot) (σ : St) : List Bool → List R → List V → List Slot → Prop
  | nil : AR c F H fr σ [] [] [] []
  | fz {ms : List Bool} {r : R} {rs : List R} {v : V} {vs : List V} {d : D} {sl : List Slot} (nb : ∀ i, r ≠ .bo i) (h : Rep c F H d v) (t : AR c F H fr σ ms rs vs sl) : AR c F H fr σ (false :: ms) (r :: rs) (v :: vs) (.fz d :: sl)
  | bo {ms : List Bool} {i : Nat} {rs : List R} {v : V} {vs : List V} {d : D} {sub : List Nat} {sl : List Slot} (e : fr[i]? = some (.ow d sub)) (h : σ[i]? = some (some v)) (t : AR c F H fr σ ms rs vs sl) : AR c F H fr σ (true :: ms) (.bo i :: rs) (v :: vs) (.ow d sub :: sl)
def empt : List R → List Slot → List Slot
  | .bo i :: rs, fr => empt rs (fr.set i .emp)
  | _ :: rs, fr => empt rs fr
  | [], fr => fr
theorem AR.off {fr : List Slot} {j : Nat} : ∀ {ms : List Bool} {rs : List R} {vs : List V} {sl : List Slot}, AR c F H fr σ ms rs vs sl → j ∉ boAll rs → AR c F H (fr.set j .emp) σ ms rs vs sl
  | _, _, _, _, .nil, _ => .nil
  | _, r :: _, _, _, .fz nb h t, nj => .fz nb h (t.off (by
      cases r with
      | bo i => exact absurd rfl (nb i)
      | fz _ => exact nj
      | ow _ _ => exact nj))
  | _, _, _, _, .bo (i := i) e h t, nj => by
    have n1 : j ≠ i ∧ j ∉ boAll _ := ⟨fun q => nj (by rw [q]; exact List.mem_cons_self), fun q => nj (List.mem_cons_of_mem _ q)⟩
    exact .bo (by rw [List.getElem?_set_ne n1.1]; exact e) h (t.off n1.2)
theorem lend : ∀ {ms : List Bool} {rs : List R} {vs : List V} {sl : List Slot} {fr : List Slot} {A : List Addr}, AR c F H fr σ ms rs vs sl → (boAll rs).Nodup → SRel c F H fr σ A →
    ∃ Ac A', SRel c F H sl (vs.map some) Ac ∧ SRel c F H (empt rs fr) σ A' ∧ (Ac ++ A').Perm A
  | _, _, _, _, fr, A, .nil, _, S => ⟨[], A, .nil, S, List.Perm.refl _⟩
  | _, r :: rs, _, _, fr, A, .fz nb h t, nd, S => by
    have e1 : boAll (r :: rs) = boAll rs ∧ empt (r :: rs) fr = empt rs fr := by
      cases r with
      | bo i => exact absurd rfl (nb i)
      | fz _ => exact ⟨rfl, rfl⟩
      | ow _ _ => exact ⟨rfl, rfl⟩
    rw [e1.1] at nd
    obtain ⟨Ac, A', h1, h2, h3⟩ := lend t nd S
    exact ⟨Ac, A', .fz h h1, by rw [e1.2]; exact h2, h3⟩
  | _, .bo i :: rs, _, _, fr, A, .bo (d := d) (sub := sub) e h t, nd, S => by
    obtain ⟨n1, n2⟩ := List.nodup_cons.mp (show (i :: boAll rs).Nodup from nd)
    obtain ⟨a, bs, A1, A2, e1, o, e2, _, S'⟩ := S.getO e
    rw [h] at e1
    cases e1
    obtain ⟨Ac, A', h1, h2, h3⟩ := lend (t.off n1) n2 S'
    refine ⟨a :: (bs ++ Ac), A', .ow o h1, h2, ?_⟩
    rw [e2]
    have p1 : (a :: (bs ++ Ac) ++ A').Perm (a :: (bs ++ (A1 ++ A2))) := by
      rw [List.cons_append, List.append_assoc]
      exact List.Perm.cons _ (List.Perm.append_left _ h3)
    refine p1.trans ?_
    have p2 : (a :: (bs ++ (A1 ++ A2))).Perm ((a :: bs) ++ A1 ++ A2) := by rw [List.cons_append, List.cons_append, List.append_assoc]
    refine p2.trans ?_
    have p3 : ((a :: bs) ++ A1 ++ A2).Perm (A1 ++ (a :: bs) ++ A2) := List.Perm.append_right _ List.perm_append_comm
    refine p3.trans ?_
    rw [List.append_assoc]
    exact List.Perm.refl _
/-- what comes back stands where it stood -/
theorem refill : ∀ {ms : List Bool} {rs : List R} {vs : List V} {sl : List Slot} {fr0 : List Slot}, AR c F H fr0 σ ms rs vs sl → ∀ {outs : List Slot} {fr : List Slot} {A Ao : List Addr}, (boAll rs).Nodup → fr.length = fr0.length →
    (∀ i, i ∈ boAll rs → fr[i]? = some .emp) → SRel c F' H' fr σ A → SRel c F' H' outs (vs.map some) Ao → ∃ A'', SRel c F' H' (backS ms rs outs fr) σ A'' ∧ ∃ Ae, (A'' ++ Ae).Perm (Ao ++ A)
  | _, _, _, _, fr0, .nil, outs, fr, A, Ao, nd, hl, em, S, O => ⟨A, S, Ao, List.perm_append_comm⟩
  | _, r :: rs, _, _, fr0, .fz nb h t, outs, fr, A, Ao, nd, hl, em, S, O => by
    have e1 : boAll (r :: rs) = boAll rs := by
      cases r with
      | bo i => exact absurd rfl (nb i)
      | fz _ => rfl
      | ow _ _ => rfl
    rw [e1] at nd em
    cases O with
    | emp O =>
      obtain ⟨A'', s1, Ae, p⟩ := refill t nd hl em S O
      exact ⟨A'', s1, Ae, p⟩
    | fz h' O =>
      obtain ⟨A'', s1, Ae, p⟩ := refill t nd hl em S O
      exact ⟨A'', s1, Ae, p⟩
    | @ow d sub a bs _ _ A1 h' O =>
      obtain ⟨A'', s1, Ae, p⟩ := refill t nd hl em S O
      refine ⟨A'', s1, (a :: bs) ++ Ae, ?_⟩
      refine (List.Perm.append_left A'' List.perm_append_comm).trans ?_
      rw [← List.append_assoc]
      refine (List.Perm.append_right _ p).trans ?_
      refine List.perm_append_comm.trans ?_
      rw [← List.cons_append, List.append_assoc]
  | true :: ms, .bo i :: rs, v :: vs, _, fr0, .bo e h t, outs, fr, A, Ao, nd, hl, em, S, O => by
    obtain ⟨n1, n2⟩ := List.nodup_cons.mp (show (i :: boAll rs).Nodup from nd)
    have li : i < fr.length := by rw [hl]; exact (List.getElem?_eq_some_iff.mp e).1
    have em' : ∀ j, j ∈ boAll rs → (∀ o, (fr.set i o)[j]? = some .emp) := fun j m o => by
      rw [List.getElem?_set_ne (fun q => n1 (by rw [q]; exact m))]
      exact em j (List.mem_cons_of_mem _ m)
    have vi : ∀ u, σ.set i (some u) = σ.set i (some u) := fun _ => rfl
    have self : σ.set i (some v) = σ := by
      apply List.ext_getElem?
      intro j
      by_cases q : i = j
      · subst q
        rw [List.getElem?_set_self (by rw [← S.length]; exact li), h]
      · rw [List.getElem?_set_ne q]
    have selfE : ∀ (fr : List Slot), fr[i]? = some .emp → fr.set i .emp = fr := fun fr q => by
      apply List.ext_getElem?
      intro j
      by_cases q2 : i = j
      · subst q2
        rw [List.getElem?_set_self (List.getElem?_eq_some_iff.mp q).1, q]
      · rw [List.getElem?_set_ne q2]
    cases O with
    | @emp _ os _ _ O =>
      have e2 : backS (true :: ms) (.bo i :: rs) (.emp :: os) fr = backS ms rs os (fr.set i .emp) := rfl
      rw [e2, selfE fr (em i List.mem_cons_self)]
      exact refill t n2 hl (fun j m => em j (List.mem_cons_of_mem _ m)) S O
    | @fz d _ os _ _ h' O =>
      have e2 : backS (true :: ms) (.bo i :: rs) (.fz d :: os) fr = backS ms rs os (fr.set i (.fz d)) := rfl
      rw [e2]
      obtain ⟨A1, s1, sub⟩ := S.setF (i := i) li h'
      rw [self] at s1
      have eA : ∃ Ae, (A1 ++ Ae).Perm A := by
        obtain ⟨l, hp⟩ := sub.exists_perm_append
        exact ⟨l, hp.symm⟩
      obtain ⟨A'', s2, Ae, p⟩ := refill t n2 (by rw [List.length_set]; exact hl) (fun j m => em' j m _) s1 O
      obtain ⟨Ae2, p2⟩ := eA
      refine ⟨A'', s2, Ae ++ Ae2, ?_⟩
      rw [← List.append_assoc]
      refine (List.Perm.append_right _ p).trans ?_
      rw [List.append_assoc]
      exact List.Perm.append_left _ p2
    | @ow d sub a bs os _ A1 h' O =>
      have e2 : backS (true :: ms) (.bo i :: rs) (.ow d sub :: os) fr = backS ms rs os (fr.set i (.ow d sub)) := rfl
      rw [e2]
      obtain ⟨B1, B2, s1, sb⟩ := S.setO (i := i) li h'
      rw [self] at s1
      obtain ⟨A'', s2, Ae, p⟩ := refill t n2 (by rw [List.length_set]; exact hl) (fun j m => em' j m _) s1 O
      obtain ⟨l, hp⟩ := sb.exists_perm_append
      refine ⟨A'', s2, Ae ++ l, ?_⟩
      rw [← List.append_assoc]
      refine (List.Perm.append_right _ p).trans ?_
      have q1 : (A1 ++ (B1 ++ a :: (bs ++ B2)) ++ l).Perm (A1 ++ ((a :: bs) ++ (B1 ++ B2)) ++ l) := by
        refine List.Perm.append_right _ (List.Perm.append_left _ ?_)
        have z : B1 ++ a :: (bs ++ B2) = B1 ++ (a :: bs) ++ B2 := by rw [List.append_assoc, List.cons_append]
        rw [z]
        refine (List.Perm.append_right _ List.perm_append_comm).trans ?_
        rw [List.append_assoc]
      refine q1.trans ?_
      have q2 : (A1 ++ ((a :: bs) ++ (B1 ++ B2)) ++ l).Perm ((a :: bs) ++ A1 ++ ((B1 ++ B2) ++ l)) := by
        rw [← List.append_assoc A1, List.append_assoc]
        exact List.Perm.append_right _ List.perm_append_comm
      refine q2.trans ?_
      have z2 : (a :: (bs ++ A1)) ++ A = (a :: bs) ++ A1 ++ A := by rw [List.cons_append, List.cons_append, List.cons_append]
      rw [z2]
      exact List.Perm.append_left _ hp.symm
theorem AR.mono (hF : ∀ a, F a → F' a) (hH : ∀ a o, F a → H a = some o → H' a = some o) {fr : List Slot} {ms : List Bool} {rs : List R} {vs : List V} {sl : List Slot} (h : AR c F H fr σ ms rs vs sl) : AR c F' H' fr σ ms rs vs sl := by
  induction h with
  | nil => exact .nil
  | fz nb h _ ih => exact .fz nb (h.mono hF hH) ih
  | bo e h _ ih => exact .bo e h ih
theorem empt_len : ∀ (rs : List R) (fr : List Slot), (empt rs fr).length = fr.length
  | [], _ => rfl
  | .bo i :: rs, fr => by
    show (empt rs (fr.set i .emp)).length = _
    rw [empt_len, List.length_set]
  | .fz _ :: rs, fr => empt_len rs fr
  | .ow _ _ :: rs, fr => empt_len rs fr
theorem empt_off : ∀ (rs : List R) (fr : List Slot) {j : Nat}, j ∉ boAll rs → (empt rs fr)[j]? = fr[j]?
  | [], _, _, _ => rfl
  | .bo i :: rs, fr, j, nj => by
    show (empt rs (fr.set i .emp))[j]? = _
    have nj : j ∉ i :: boAll rs := nj
    rw [empt_off rs _ (fun q => nj (List.mem_cons_of_mem _ q)), List.getElem?_set_ne (fun q => nj (by rw [q]; exact List.mem_cons_self))]
  | .fz _ :: rs, fr, _, nj => empt_off rs fr nj
  | .ow _ _ :: rs, fr, _, nj => empt_off rs fr nj
theorem empt_at : ∀ (rs : List R) (fr : List Slot) {j : Nat}, j ∈ boAll rs → j < fr.length → (empt rs fr)[j]? = some .emp
  | .bo i :: rs, fr, j, hj, l => by
    show (empt rs (fr.set i .emp))[j]? = _
    by_cases q : j ∈ boAll rs
    · exact empt_at rs _ q (by rw [List.length_set]; exact l)
    · rcases List.mem_cons.mp (show j ∈ i :: boAll rs from hj) with e | e
      · subst e
        rw [empt_off rs _ q, List.getElem?_set_self l]
      · exact absurd e q
  | .fz _ :: rs, fr, _, hj, l => empt_at rs fr hj l
  | .ow _ _ :: rs, fr, _, hj, l => empt_at rs fr hj l
theorem AR.bos {fr : List Slot} {ms : List Bool} {rs : List R} {vs : List V} {sl : List Slot} (h : AR c F H fr σ ms rs vs sl) : ∀ i ∈ boAll rs, i < fr.length := by
  induction h with
  | nil => intro i m; cases m
  | @fz ms r rs v vs d sl nb h t ih =>
    intro i m
    cases r with
    | bo j => exact absurd rfl (nb j)
    | fz _ => exact ih i m
    | ow _ _ => exact ih i m
  | bo e h _ ih =>
    intro i m
    rcases List.mem_cons.mp m with q | q
    · rw [q]; exact (List.getElem?_eq_some_iff.mp e).1
    · exact ih i q
/-- .. set over what was lent: the same as over what stood there -/
theorem backS_empt : ∀ {ms : List Bool} {rs : List R} {vs : List V} {sl : List Slot} {fr0 : List Slot}, AR c F H fr0 σ ms rs vs sl → ∀ {outs : List Slot}, outs.length = ms.length → ∀ (fr : List Slot), (boAll rs).Nodup → backS ms rs outs (empt rs fr) = backS ms rs outs fr := by
  have comm : ∀ (rs : List R) (fr : List Slot) {i : Nat} (x : Slot), i ∉ boAll rs → empt rs (fr.set i x) = (empt rs fr).set i x := by
    intro rs
    induction rs with
    | nil => intro fr i x _; rfl
    | cons r rs ih =>
      intro fr i x ni
      cases r with
      | bo j =>
        have ni : i ∉ j :: boAll rs := ni
        show empt rs ((fr.set i x).set j .emp) = (empt rs (fr.set j .emp)).set i x
        rw [List.set_comm _ _ (fun q => ni (by rw [q]; exact List.mem_cons_self)), ih _ _ (fun q => ni (List.mem_cons_of_mem _ q))]
      | fz _ => exact ih fr x ni
      | ow _ _ => exact ih fr x ni
  intro ms rs vs sl fr0 h
  induction h with
  | nil => intro outs _ fr _; rfl
  | @fz ms r rs v vs d sl nb h t ih =>
    intro outs hl fr nd
    cases outs with
    | nil => cases hl
    | cons o os =>
      cases r with
      | bo i => exact absurd rfl (nb i)
      | fz _ => exact ih (by simpa using hl) fr nd
      | ow _ _ => exact ih (by simpa using hl) fr nd
  | @bo ms i rs v vs d sub sl e h t ih =>
    intro outs hl fr nd
    obtain ⟨n1, n2⟩ := List.nodup_cons.mp (show (i :: boAll rs).Nodup from nd)
    cases outs with
    | nil => cases hl
    | cons o os =>
      show backS ms rs os ((empt rs (fr.set i .emp)).set i o) = backS ms rs os (fr.set i o)
      rw [← comm rs _ o n1, List.set_set]
      exact ih (by simpa using hl) _ n2
end
section
variable {c : Cn} {W : XW} {σ : St} {w w0 : Wd} {s : Sta}
theorem keepAll_bo : ∀ {rs : List R} {ds : List D}, keepAll rs = some ds → boAll rs = []
  | [], _, _ => rfl
  | r :: rs, ds, e => by
    simp only [keepAll, Option.bind_eq_some_iff, Option.map_eq_some_iff] at e
    obtain ⟨d, k1, ds', k2, _⟩ := e
    cases r with
    | bo i => cases k1
    | fz _ => exact keepAll_bo (rs := rs) k2
    | ow _ _ => exact keepAll_bo (rs := rs) k2
/-- the arguments, taken by their modes -/
theorem toSlots_AR (x : Ext w0 w) (S : SR c w s.fr σ) : ∀ {ms : List Bool} {va : Bool} {rs : List R} {vs : List V} {sl0 : List Slot}, toSlots s ms va rs = some sl0 → RRs c w0 w σ rs vs →
    ∃ rs1 rs2 vs1 vs2 sl1 ds bs, rs = rs1 ++ rs2 ∧ vs = vs1 ++ vs2 ∧ boAll rs2 = [] ∧ vs1.length = ms.length ∧ vs2.length ≤ LIM ∧ sl0 = sl1 ++ (if va then [.fz (.tup ds)] else []) ∧ (va = false → vs2 = []) ∧ (∀ b ∈ bs, b ∈ w0.A ∨ w0.H b = none) ∧ Free c w bs ∧
      AR c (w.keep bs).F w.H s.fr σ ms rs1 vs1 sl1 ∧ Reps c (w.keep bs).F w.H ds vs2 := by
  intro ms
  induction ms with
  | nil =>
    intro va rs vs sl0 e r
    cases va with
    | false =>
      cases r with
      | nil =>
        have e : some [] = some sl0 := e
        cases e
        exact ⟨[], [], [], [], [], [], [], rfl, rfl, rfl, rfl, Nat.zero_le _, rfl, fun _ => rfl, fun b m => (by cases m), ⟨fun b m => (by cases m), fun b m => (by cases m)⟩, .nil, .nil⟩
      | cons _ _ => simp [toSlots] at e
    | true =>
      have e : (if rs.length ≤ LIM then (keepAll rs).map (fun ds => [Slot.fz (.tup ds)]) else none) = some sl0 := by simpa [toSlots] using e
      by_cases hl : rs.length ≤ LIM
      case neg => rw [if_neg hl] at e; cases e
      rw [if_pos hl] at e
      rw [Option.map_eq_some_iff] at e
      obtain ⟨ds, e1, rfl⟩ := e
      obtain ⟨bs, b1, b2, b3⟩ := r.kept x S e1
      exact ⟨[], rs, [], vs, [], ds, bs, rfl, rfl, keepAll_bo e1, rfl, by rw [← r.len]; exact hl, rfl, fun z => (by cases z), b1, b2, .nil, b3⟩
  | cons m ms ih =>
    intro va rs vs sl0 e r
    cases r with
    | nil => cases m <;> simp [toSlots] at e
    | @cons r v rs vs h t =>
      cases m with
      | false =>
        have e : (keepR r).bind (fun d => (toSlots s ms va rs).map (Slot.fz d :: ·)) = some sl0 := by simpa [toSlots] using e
        rw [Option.bind_eq_some_iff] at e
        obtain ⟨d, k1, e⟩ := e
        rw [Option.map_eq_some_iff] at e
        obtain ⟨sl', k2, rfl⟩ := e
        obtain ⟨rs1, rs2, vs1, vs2, sl1, ds, bs, q1, q2, q3, q4, qz, q5, q6, q7, q8, q9, q10⟩ := ih k2 t
        obtain ⟨b2, p1, p2, p3⟩ := h.kept x S k1
        have nb : ∀ i, r ≠ .bo i := fun i z => by rw [z] at k1; cases k1
        have m1 : ∀ a, (w.keep b2).F a → (w.keep (b2 ++ bs)).F a := fun a z => z.elim .inl fun q => .inr (List.mem_append_left _ q)
        have m2 : ∀ a, (w.keep bs).F a → (w.keep (b2 ++ bs)).F a := fun a z => z.elim .inl fun q => .inr (List.mem_append_right _ q)
        refine ⟨r :: rs1, rs2, v :: vs1, vs2, .fz d :: sl1, ds, b2 ++ bs, by rw [q1]; rfl, by rw [q2]; rfl, q3, by rw [List.length_cons, q4, List.length_cons], qz, by rw [q5]; rfl, q6, fun b z => ?_, ⟨fun b z => ?_, fun b z => ?_⟩,
          .fz nb (p3.mono m1 fun _ _ _ e => e) (q9.mono m2 fun _ _ _ e => e), q10.mono m2 fun _ _ _ e => e⟩
        · exact (List.mem_append.mp z).elim (p1 b) (q7 b)
        · exact (List.mem_append.mp z).elim (p2.f b) (q8.f b)
        · exact (List.mem_append.mp z).elim (p2.d b) (q8.d b)
      | true =>
        cases r with
        | bo i =>
          cases k1 : s.fr[i]? with
          | none => simp [toSlots, k1] at e
          | some y =>
            cases y with
            | ow d sub =>
              have e : (toSlots s ms va rs).map (Slot.ow d sub :: ·) = some sl0 := by simpa [toSlots, k1] using e
              rw [Option.map_eq_some_iff] at e
              obtain ⟨sl', k2, rfl⟩ := e
              obtain ⟨rs1, rs2, vs1, vs2, sl1, ds, bs, q1, q2, q3, q4, qz, q5, q6, q7, q8, q9, q10⟩ := ih k2 t
              exact ⟨.bo i :: rs1, rs2, v :: vs1, vs2, .ow d sub :: sl1, ds, bs, by rw [q1]; rfl, by rw [q2]; rfl, q3, by rw [List.length_cons, q4, List.length_cons], qz, by rw [q5]; rfl, q6, q7, q8, .bo k1 h q9, q10⟩
            | emp => simp [toSlots, k1] at e
            | fz _ => simp [toSlots, k1] at e
        | fz _ => simp [toSlots] at e
        | ow _ _ => simp [toSlots] at e
/-! ### a def's promise -/
def SpR (c : Cn) (w : Wd) (σ : St) (Q : VK) (E : XK) : FR → Prop
  | .ok r outs _ => ∀ w' v, Ext w w' → SR c w' (outs.take σ.length) σ → RR c w w' [] r v → Q v w'.H
  | .exc k vs outs _ => ∀ w' cls d, Ext w w' → SR c w' (outs.take σ.length) σ → XR c w' k vs cls d → E cls d w'.H
  | .bad => False
def spOf (c : Cn) (g : G) (j : Nat) : Sp := fun vs H Q E => ∃ (w : Wd) (vs1 vs2 : List V) (sl : List Slot) (ds : List D), w.H = H ∧ vs = vs1 ++ vs2 ∧ vs1.length = (g.md j).length ∧ vs2.length ≤ LIM ∧ (g.va j = false → vs2 = []) ∧
  SR c w sl (vs1.map some) ∧ Reps c w.F w.H ds vs2 ∧ SpR c w (vs1.map some) Q E (g.call j (sl ++ if g.va j then [.fz (.tup ds)] else []))
theorem backS_cut : ∀ {ms : List Bool} {rs1 rs2 : List R} {outs : List Slot} {fr : List Slot}, rs1.length = ms.length → backS ms (rs1 ++ rs2) outs fr = backS ms rs1 (outs.take ms.length) fr
  | [], _, _, _, _, _ => rfl
  | m :: ms, [], _, _, _, h => by cases h
  | m :: ms, r :: rs1, rs2, [], fr, h => by cases m <;> rfl
  | m :: ms, r :: rs1, rs2, o :: os, fr, h => by
    have h : rs1.length = ms.length := by simpa using h
    show backS ms (rs1 ++ rs2) os _ = backS ms rs1 (os.take ms.length) _
    exact backS_cut h
theorem boAll_app : ∀ (rs1 rs2 : List R), boAll (rs1 ++ rs2) = boAll rs1 ++ boAll rs2
  | [], _ => rfl
  | .bo i :: rs1, rs2 => congrArg (i :: ·) (boAll_app rs1 rs2)
  | .fz _ :: rs1, rs2 => boAll_app rs1 rs2
  | .ow _ _ :: rs1, rs2 => boAll_app rs1 rs2
theorem AR.lenR {F : Addr → Prop} {H : Hp} {fr : List Slot} {ms : List Bool} {rs : List R} {vs : List V} {sl : List Slot} (h : AR c F H fr σ ms rs vs sl) : rs.length = ms.length ∧ vs.length = ms.length := by
  induction h with
  | nil => exact ⟨rfl, rfl⟩
  | fz _ _ _ ih => exact ⟨congrArg (· + 1) ih.1, congrArg (· + 1) ih.2⟩
  | bo _ _ _ ih => exact ⟨congrArg (· + 1) ih.1, congrArg (· + 1) ih.2⟩
theorem call_go {g : G} {j : Nat} {rs : List R} {vs : List V} {A : R → Sta → Wd → Prop} (x : Ext w0 w) (S : SR c w s.fr σ) (r : RRs c w0 w σ rs vs) (h : Go c W σ (doCall g j rs) w0 s A) :
    spOf c g j vs w.H (fun v H' => ∃ r s' w', w'.H = H' ∧ Ext w0 w' ∧ SR c w' s'.fr σ ∧ RR c w0 w' σ r v ∧ A r s' w') (wx c W σ) := by
  have e0 : doCall g j rs s = (match (if (boAll rs).Nodup then toSlots s (g.md j) (g.va j) rs else none) with
    | none => .bad
    | some sl => match g.call j sl with
      | .ok r outs _ => .ok r { s with fr := backS (g.md j) rs outs s.fr }
      | .exc c vs outs _ => .exc c vs { s with fr := backS (g.md j) rs outs s.fr }
      | .bad => .bad) := rfl
  by_cases nd : (boAll rs).Nodup
  case neg => rw [if_neg nd] at e0; exact (h.of_bad e0).elim
  rw [if_pos nd] at e0
  cases et : toSlots s (g.md j) (g.va j) rs with
  | none => rw [et] at e0; exact (h.of_bad e0).elim
  | some sl0 =>
    rw [et] at e0
    obtain ⟨rs1, rs2, vs1, vs2, sl1, ds, bs, q1, q2, q3, q4, qz, q5, q6, q7, q8, q9, q10⟩ := toSlots_AR x S et r
    have nd1 : (boAll rs1).Nodup := by
      rw [q1, boAll_app, q3, List.append_nil] at nd
      exact nd
    have Sk := S.keep q8
    have xk := x.keep q7
    obtain ⟨Ac, A', l1, l2, l3⟩ := lend q9 nd1 Sk.rel
    have ndA : (Ac ++ A').Nodup := l3.nodup_iff.mpr Sk.nd
    obtain ⟨nc, na, ndis⟩ := List.nodup_append.mp ndA
    have inC : ∀ b ∈ Ac, b ∈ w.A := fun b m => l3.mem_iff.mp (List.mem_append_left _ m)
    have inA : ∀ b ∈ A', b ∈ w.A := fun b m => l3.mem_iff.mp (List.mem_append_right _ m)
    have SC : SR c ⟨(w.keep bs).F, w.H, Ac⟩ sl1 (vs1.map some) := ⟨l1, nc, fun b m => Sk.nf b (inC b m), Sk.fd⟩
    refine ⟨⟨(w.keep bs).F, w.H, Ac⟩, vs1, vs2, sl1, ds, rfl, q2, q4, qz, q6, SC, q10, ?_⟩
    have back : ∀ (w' : Wd) (outs : List Slot), Ext ⟨(w.keep bs).F, w.H, Ac⟩ w' → SR c w' (outs.take (vs1.map some).length) (vs1.map some) →
        ∃ A'', SR c ⟨w'.F, w'.H, A''⟩ (backS (g.md j) rs outs s.fr) σ ∧ Ext w0 ⟨w'.F, w'.H, A''⟩ ∧ (∀ b ∈ A'', b ∈ w'.A ∨ b ∈ A') := by
      intro w' outs y So
      rw [List.length_map, q4] at So
      have ln : (outs.take (g.md j).length).length = (g.md j).length := by rw [So.rel.length, List.length_map, q4]
      have l2' : SRel c w'.F w'.H (empt rs1 s.fr) σ A' := l2.mono y.f (fun a o f e => y.h a o e fun m => Sk.nf a (inC a m) f) fun a o m e => y.h a o e fun z => ndis a z a m rfl
      obtain ⟨A'', s1, Ae, p⟩ := refill q9 nd1 (empt_len rs1 s.fr) (fun i m => empt_at rs1 s.fr m (q9.bos i m)) l2' So.rel
      have eb : backS (g.md j) rs outs s.fr = backS (g.md j) rs1 (outs.take (g.md j).length) (empt rs1 s.fr) := by
        rw [q1, backS_cut q9.lenR.1, backS_empt q9 ln s.fr nd1]
      have mem : ∀ b ∈ A'', b ∈ w'.A ∨ b ∈ A' := fun b m => List.mem_append.mp (p.mem_iff.mp (List.mem_append_left _ m))
      have nA : ∀ b ∈ A', b ∉ w'.A := fun b m z => by
        rcases y.a b z with q | q
        · exact ndis b q b m rfl
        · exact S.rel.dom b (inA b m) q
      have ndO : (w'.A ++ A').Nodup := List.nodup_append.mpr ⟨So.nd, na, fun b m b' m' e => nA b' m' (by rw [← e]; exact m)⟩
      have nd2 : A''.Nodup := (List.nodup_append.mp (p.nodup_iff.mpr ndO)).1
      refine ⟨A'', ⟨by rw [eb]; exact s1, nd2, fun b m z => ?_, So.fd⟩, xk.trans ⟨y.f, fun a o e n => y.h a o e fun m => n (inC a m), fun a z => (y.g a z).imp id fun q => q.imp id (inC a), fun b m => ?_, y.d⟩, mem⟩
      · rcases mem b m with q | q
        · exact So.nf b q z
        · rcases y.g b z with f | f | f
          · exact Sk.nf b (inA b q) f
          · exact S.rel.dom b (inA b q) f
          · exact ndis b f b q rfl
      · rcases mem b m with q | q
        · exact (y.a b q).imp (inC b) id
        · exact .inl (inA b q)
    rw [q5] at e0
    dsimp only at e0
    cases ec : g.call j (sl1 ++ if g.va j then [.fz (.tup ds)] else []) with
    | bad => rw [ec] at e0; exact (h.of_bad e0).elim
    | ok r0 outs tr =>
      rw [ec] at e0
      intro w' v y So rr
      obtain ⟨A'', S2, x2, mem⟩ := back w' outs y So
      refine ⟨r0, _, ⟨w'.F, w'.H, A''⟩, rfl, x2, S2, ?_, Go.of_ok h e0 x2 S2⟩
      cases r0 with
      | fz d => exact rr
      | ow d sub =>
        obtain ⟨a, as, e, o, n1, n2⟩ := rr
        refine ⟨a, as, e, o, n1, fun b m => ⟨(n2 b m).1, fun z => ?_, ?_⟩⟩
        · rcases mem b z with q | q
          · exact (n2 b m).2.1 q
          · rcases (n2 b m).2.2 with f | f
            · exact ndis b f b q rfl
            · exact S.rel.dom b (inA b q) f
        · rcases (n2 b m).2.2 with f | f
          · exact x.a b (inC b f)
          · exact .inr (Classical.byContradiction fun q => x.d b q f)
      | bo i =>
        have rr : ([] : St)[i]? = some (some v) := rr
        simp at rr
    | exc k us outs tr =>
      rw [ec] at e0
      intro w' cls d y So xr
      obtain ⟨A'', S2, x2, mem⟩ := back w' outs y So
      refine ⟨k, us, { s with fr := backS (g.md j) rs outs s.fr }, ⟨w'.F, w'.H, A''⟩, rfl, S2, xr, ?_⟩
      unfold Go at h
      rw [e0] at h
      exact h _ x2 S2
end
end Mi

set_option Elab.async false
set_option linter.all false
set_option maxRecDepth 100000
set_option maxHeartbeats 2000000
/-! Mi: the rules of calls. -/
namespace L2
open PySem PySem.Spec PyProof.Rows StX
/-- an argument list in a call's place -/
structure PArg (X : Cx) (es : List Expr) (t : TA) : Prop where
  run : ∀ (pos : Pos) (f : Value) (first : List Value) (pins : List (Addr × Obj)) (s : Shared) (σ : L2.St) (H : Hp) (R : List V → Hp → Prop) (Q : Value → Shared → Prop), PySem.W.keepIn X.K f = true → Inv X pins σ H s → t σ H R →
    (∀ us s1 vs H1, Inv X pins σ H1 s1 → Vals vs us → R vs H1 → wpAny (model X.prog X.w) X.A (call f (first ++ us)) Q X.xe s1) →
    wpAny (model X.prog X.w) X.A (callWith pos f first (backTo pos (starEach es X.env)) []) Q X.xe s
section
variable {X : Cx} {e : Expr} {es : List Expr} {te : TE} {t : TA} {p pos : Pos}
theorem parg_nil : PArg X [] tNil := ⟨fun pos f first pins s σ H R Q hk I h k => PySem.W.callWith_K0 I.kIn hk (k [] s [] H I .nil h)⟩
theorem parg_plain (ha : PA X (e :: es) t) (he : starEach (e :: es) X.env = (false, eval e X.env) :: starEach es X.env) (hpl : ∀ pos, (backTo pos (starEach es X.env)).any (·.1) = false) : PArg X (e :: es) t :=
  ⟨fun pos f first pins s σ H R Q hk I h k => PySem.W.callWith_K (h₀ := X.base) I.ok.mod.kin hk (thn (ha.run pos pins s σ H R I h) fun us s1 ⟨vs, H1, I1, r, q⟩ => ⟨I1.kIn, k us s1 vs H1 I1 r q⟩) he (hpl pos)⟩
theorem parg_star1 (he : PE X e te) : PArg X [.Starred e p] (tStar X.K te tNil) := by
  refine ⟨fun pos f first pins s σ H R Q hk I h k => ?_⟩
  refine PySem.W.callWith_S (h₀ := X.base) I.ok.mod.kin hk (thn (he.run pins s σ H _ I h) fun v s1 ⟨y, H1, I1, ry, a, xs, ey, hxs, q⟩ => ?_) rfl
  subst ey
  obtain rfl : v = Value.ref a := ry
  have q : R (xs ++ []) H1 := q
  rw [List.append_nil] at q
  exact star_any I1 hxs fun us s2 I2 rv => ⟨I2.kIn, k us s2 xs H1 I2 rv q⟩
theorem parg_star2 (ha : PA X (e :: es) t) (he : starEach (e :: es) X.env = (false, eval e X.env) :: starEach es X.env) (hst : ∀ pos, (backTo pos (starEach es X.env)).any (·.1) = true) : PArg X (e :: es) t :=
  ⟨fun pos f first pins s σ H R Q hk I h k => PySem.W.callWith_S2 (h₀ := X.base) I.ok.mod.kin hk (thn (ha.run pos pins s σ H R I h) fun us s1 ⟨vs, H1, I1, r, q⟩ => ⟨I1.kIn, k us s1 vs H1 I1 r q⟩) he (hst pos)⟩
theorem PArg.imp {t t' : TA} (h : PArg X es t) (i : ∀ σ H Q, t' σ H Q → t σ H Q) : PArg X es t' := ⟨fun pos f first pins s σ H R Q hk I q k => h.run pos f first pins s σ H R Q hk I (i _ _ _ q) k⟩
end
section
variable {X : Cx} {CX : CXT} {k : Nat} {f C : Addr} {sp : Sp} {E : St → XK} {x m : Str} {o e fe : Expr} {es : List Expr} {ta tf : TE} {t : TA} {p pos apos : Pos}
theorem run_fnP {A : Around} {pins : List (Addr × Obj)} {σ : L2.St} {H : Hp} {s : Shared} {Q : VK} {us : List Value} {vs : List V} (F : FnR X.prog X.w X.K X.mg X.base CX k f sp) (hA : A.frames = X.A.frames) (hr : Room k A) (hx : PassesAt CX X σ (E σ)) (I : Inv X pins σ H s) (r : Vals vs us) (h : sp vs H Q (E σ)) :
    codeAny (model X.prog X.w) A (.call (.ref f) ⟨us, []⟩) (fun r s' => match r with | .ok (.ret v) => EP X pins σ Q v s' | .ok _ => False | .error e => X.xe e s') s := by
  have e0 := I.env0
  refine codeAny_mono (F A X.stack s H us vs Q (E σ) hr ⟨hA.trans e0.frames, e0.mod, e0.bs, e0.bsz, e0.funs, e0.frf, e0.hok, e0.bare⟩ r h) fun r s' hq => ?_
  cases r with
  | error e => exact hx pins H s e s' I hq
  | ok fl => cases fl <;> first | exact I.after hq | exact False.elim hq
/-- x(..), x a def of the module -/
theorem pe_callP (F : FnR X.prog X.w X.K X.mg X.base CX k f sp) (hr : Room k X.A) (hg : Gl X x) (hm : X.mg x = some (.ref f)) (hk : PySem.W.keepIn X.K (.ref f) = true) (hx : ∀ σ, PassesAt CX X σ (E σ)) (ha : PArg X es t) (hdb : (x == ("__debug__" : Str)) = false) :
    PE X (.Call (.Name x p) es [] pos) (fun σ H Q => t σ H fun vs H1 => sp vs H1 Q (E σ)) := by
  refine ⟨fun pins s σ H Q I h => ?_⟩
  refine wpAny_Call_Name_kw (ld_glob I hg hm ?_ hdb)
  exact ha.run pos _ [] pins s σ H _ _ hk I h fun us s1 vs H1 I1 r q => wpAny_call (run_fnP F rfl hr (hx σ) I1 r q)
/-- o.m(..), an instance of the class at C -/
theorem pe_methP {pl : Sem Bool} (he : PE X o ta) (c : Cls X.K C) (hm : Meth X.K C m f) (F : FnR X.prog X.w X.K X.mg X.base CX k f sp) (hr : Room k X.A) (hx : ∀ σ, PassesAt CX X σ (E σ)) (ha : PArg X es t)
    (ht : eval (.Call (.Attribute o m apos) es [] pos) X.env = (do
      let ov ← eval o X.env
      standAt apos.atName
      let (f, first) ← holding [ov] (getMethod ov m pl)
      callWith pos f first (backTo pos (starEach es X.env)) (backToKw pos (keywordEach [] X.env)))) :
    PE X (.Call (.Attribute o m apos) es [] pos) (fun σ H Q => ta σ H fun x H1 => ∃ a dx fs, x = .ref a ∧ H1 a = some (.ins C dx fs) ∧ fs.lookup m = none ∧ t σ H1 fun vs H2 => sp (x :: vs) H2 Q (E σ)) := by
  refine ⟨fun pins s σ H Q I h => ?_⟩
  refine PySem.W.methodCall_KW (pl := pl) (thn (he.run pins s σ H _ I h) fun u s1 ⟨x, H1, I1, rx, a, dx, fs, ex, ea, l, q⟩ => ?_) ht
  subst ex
  obtain rfl : u = Value.ref a := rx
  refine getmeth_ok I1 ea c hm l ?_
  exact ha.run pos _ [.ref a] pins s1 σ H1 _ _ hm.kp I1 q fun us s2 vs H2 I2 r q2 => wpAny_call (run_fnP (us := .ref a :: us) (vs := .ref a :: vs) F rfl hr (hx σ) I2 (.cons rfl r) q2)
/-- C(..) -/
def tMkP (C : Addr) (sp : Sp) (E : St → XK) (t : TA) : TE := fun σ H Q => t σ H fun vs H1 => ∀ x dx, H1 x = none → H1 dx = none → dx ≠ x →
  sp (.ref x :: vs) (upd (upd H1 dx (.own x)) x (.ins C dx [])) (fun v H2 => v = .non ∧ Q (.ref x) H2) (E σ)
theorem run_makeP {pins : List (Addr × Obj)} {σ : L2.St} {H : Hp} {s : Shared} {Q : VK} {us : List Value} {vs : List V} (M : Mk X.K C f) (F : FnR X.prog X.w X.K X.mg X.base CX k f sp) (hr : Room (k + 1) X.A) (hx : PassesAt CX X σ (E σ)) (I : Inv X pins σ H s) (r : Vals vs us)
    (h : ∀ x dx, H x = none → H dx = none → dx ≠ x → sp (.ref x :: vs) (upd (upd H dx (.own x)) x (.ins C dx [])) (fun v H2 => v = .non ∧ Q (.ref x) H2) (E σ)) :
    wpAny (model X.prog X.w) X.A (call (.ref C) us) (EP X pins σ Q) X.xe s := by
  have hq := h (s.heap.objs.size + 1) s.heap.objs.size (I.hok.fresh (Nat.le_succ _)) (I.hok.fresh (Nat.le_refl _)) (Nat.ne_of_lt (Nat.lt_succ_self _))
  have I2 := Inv.made (C := C) I
  have fr : (X.A.under (.builtin "type.__call__" ⟨.ref C :: us, []⟩)).frames = X.A.frames := by first | rfl | simp [Around.under, Code.envs, Code.isFrame, pushEnvs]
  refine wpAny_call (make_map (f := f) I.kIn M.makes M.init (beq_iff_eq.mp M.fn) (codeAny_mono (run_fnP (us := Value.ref (s.heap.objs.size + 1) :: us) (vs := V.ref (s.heap.objs.size + 1) :: vs) F fr (hr.make C us []) hx I2 (.cons rfl r) hq) fun r s' hq' => ?_))
  cases r with
  | error e => exact hq'
  | ok fl =>
    cases fl with
    | ret u =>
      obtain ⟨v, H', I3, rv, ev, q3⟩ := hq'
      subst ev
      exact ⟨rv, ⟨V.ref (s.heap.objs.size + 1), H', I3, rfl, q3⟩⟩
    | next => exact False.elim hq'
    | brk => exact False.elim hq'
    | cont => exact False.elim hq'
theorem pe_makeP (M : Mk X.K C f) (F : FnR X.prog X.w X.K X.mg X.base CX k f sp) (hr : Room (k + 1) X.A) (hg : Gl X x) (hm : X.mg x = some (.ref C)) (hx : ∀ σ, PassesAt CX X σ (E σ)) (ha : PArg X es t) (hdb : (x == ("__debug__" : Str)) = false) :
    PE X (.Call (.Name x p) es [] pos) (tMkP C sp E t) := by
  refine ⟨fun pins s σ H Q I h => ?_⟩
  refine wpAny_Call_Name_kw (ld_glob I hg hm ?_ hdb)
  exact ha.run pos _ [] pins s σ H _ _ M.kp I h fun us s1 vs H1 I1 r q => run_makeP M F hr (hx σ) I1 r q
/-- cls(..), cls a name that holds the class -/
theorem pe_makeV {i : Nat} (M : Mk X.K C f) (F : FnR X.prog X.w X.K X.mg X.base CX k f sp) (hr : Room (k + 1) X.A) (hN : X.N[i]? = some x) (hv : Vis X.env.scope x) (hx : ∀ σ, PassesAt CX X σ (E σ)) (ha : PArg X es t) (hdb : (x == ("__debug__" : Str)) = false) (hcd : (x == ("__classdict__" : Str)) = false) :
    PE X (.Call (.Name x p) es [] pos) (fun σ H Q => σ[i]? = some (some (.ref C)) ∧ tMkP C sp E t σ H Q) := by
  refine ⟨fun pins s σ H Q I h => ?_⟩
  obtain ⟨hc, h⟩ := h
  refine wpAny_Call_Name_kw ?_
  have pv := (pe_var (X := X) (pos := p) hN hv hdb hcd).run pins s σ H (fun v H1 => v = .ref C ∧ H1 = H) I ⟨_, hc, rfl, rfl⟩
  refine thn pv fun u s1 ⟨v, H1, I1, rv, ev, eH⟩ => ?_
  subst ev eH
  obtain rfl : u = Value.ref C := rv
  exact ha.run pos _ [] pins s1 σ _ _ _ M.kp I1 h fun us s2 vs H2 I2 r q => run_makeP M F hr (hx σ) I2 r q
/-- e.f, a property -/
theorem pe_propP {pg g : Addr} (he : PE X e ta) (c : Cls X.K C) (hp : PropOf X.K C m pg g) (F : FnR X.prog X.w X.K X.mg X.base CX k g sp) (hr : Room (k + 1) X.A) (hn : ∀ l H s e s', ¬ CX l H s (fun _ _ _ => False) e s') (hab : attributeBase e m X.env (eval e X.env) = eval e X.env) :
    PE X (.Attribute e m pos) (fun σ H Q => ta σ H fun x H1 => ∃ a dx fs, x = .ref a ∧ H1 a = some (.ins C dx fs) ∧ sp [.ref a] H1 Q fun _ _ _ => False) := by
  refine ⟨fun pins s σ H Q I h => ?_⟩
  refine attr_of hab (thn (he.run pins s σ H _ I h) fun u s1 ⟨x, H1, I1, rx, a, dx, fs, ex, ea, q⟩ => ?_)
  subst ex
  obtain rfl : u = Value.ref a := rx
  obtain ⟨mA, O, _, _, _, _⟩ := ins_get I1.hok ea
  obtain ⟨od, J, _⟩ := O.look
  obtain ⟨rest, hrec⟩ := hp.rec_
  have I2 := I1.tok (s1.toks + 1)
  have hc : (PySem.W.clsIn X.K C).isSome = true := by
    obtain ⟨cd, hc, _⟩ := PySem.W.any_some c.hd
    rw [hc]
    rfl
  refine PySem.W.get_bind I1.kIn J (PySem.W.plainGet_of (c.get m)).1 (PySem.W.findObj_data hc hp.at_ hp.get hp.tak) (PySem.W.plainGet_of (c.get m)).2 (wpAny_call (PySem.W.prop_get (s := { s1 with toks := s1.toks + 1 }) I1.kIn hrec ?_))
  have I3 : Inv X.nox pins σ H1 { s1 with toks := s1.toks + 1 } := I2.wish _
  refine codeAny_mono (run_fnP (X := X.nox) (A := X.A.in1) (E := fun _ _ _ _ => False) (us := [.ref a]) (vs := [.ref a]) F rfl hr.in1 (fun pins H s e s' _ z => hn _ _ _ _ _ z) I3 (.cons rfl .nil) q) fun r s' hq => ?_
  cases r with
  | error er => exact False.elim hq
  | ok fl =>
    cases fl with
    | ret u =>
      obtain ⟨v, H', I4, rv, q3⟩ := hq
      show wpAny _ _ (handedOut u) _ _ _
      rw [PySem.W.handedOut_of (handed_of rv)]
      exact wpAny_pure ⟨v, H', I4.unwish, rv, q3⟩
    | next => exact False.elim hq
    | brk => exact False.elim hq
    | cont => exact False.elim hq
end
end L2

set_option Elab.async false
set_option linter.all false
set_option maxRecDepth 100000
set_option maxHeartbeats 2000000
/-! Mi: calls, read. -/
namespace Mi
open PySem L2
section
variable {c : Cn} {W : XW} {g : G} {σ : St} {H : Hp} {Q : VK} {w w0 w1 : Wd} {s : Sta} {es : CA} {a : CE} {j cc : Nat} {m : Str}
theorem SpR.imp {Q' : VK} {E E' : XK} {r : FR} (h : SpR c w σ Q E r) (q : ∀ v H, Q v H → Q' v H) (e : ∀ cls d H, E cls d H → E' cls d H) : SpR c w σ Q' E' r := by
  cases r with
  | ok r outs tr => exact fun w' v x S rr => q _ _ (h w' v x S rr)
  | exc k vs outs tr => exact fun w' cls d x S xr => e _ _ _ (h w' cls d x S xr)
  | bad => exact h
theorem spOf.imp {vs : List V} {Q' : VK} {E E' : XK} (h : spOf c g j vs H Q E) (q : ∀ v H, Q v H → Q' v H) (e : ∀ cls d H, E cls d H → E' cls d H) : spOf c g j vs H Q' E' := by
  obtain ⟨w, vs1, vs2, sl, ds, h1, h2, h3, h4, h5, h6, h7, h8⟩ := h
  exact ⟨w, vs1, vs2, sl, ds, h1, h2, h3, h4, h5, h6, h7, h8.imp q e⟩
theorem t_call (h : tE c W (evE g (.call j es)) σ H Q) : tA c W (evA g es) σ H fun vs H1 => spOf c g j vs H1 Q (wx c W σ) := by
  obtain ⟨w, s, rfl, S, h⟩ := h
  unfold evE at h
  refine tA.bind S h fun rs s1 w1 vs x S1 R1 G1 => ?_
  refine (call_go x S1 R1 G1).imp (fun v H' ⟨r, s', w', e, x', S', rr, q⟩ => ?_) fun _ _ _ z => z
  rw [← e]
  exact q v rr
/-- an instance of that class -/
theorem RR.ins {r : R} {v : V} {d : D} (S : SR c w s.fr σ) (h : RR c w0 w σ r v) (e : rdR s r = some d) (hi : isIns cc d = true) (hm : m ∉ c.fl cc) :
    ∃ b dx fs, v = .ref b ∧ w.H b = some (.ins (c.C cc) dx fs) ∧ fs.lookup m = none := by
  have lkF : ∀ {F : Addr → Prop} {H : Hp} {ns : List Str} {ds : List D} {fs : List (Str × V)}, RepF c F H ns ds fs → m ∉ ns → fs.lookup m = none := by
    intro F H ns ds fs r
    induction ds generalizing ns fs with
    | nil => intro _; cases r; rfl
    | cons d ds ih =>
      cases r with
      | @cons n ns d v ds vs h r =>
        intro nm
        have ne : (m == n) = false := beq_eq_false_iff_ne.mpr fun z => nm (by rw [z]; exact List.mem_cons_self)
        simp only [List.lookup_cons, ne]
        exact ih r fun z => nm (List.mem_cons_of_mem _ z)
  have lkO : ∀ {F : Addr → Prop} {H : Hp} {ns : List Str} {ds : List D} {fs : List (Str × V)} {i : Nat} {sub : List Nat} {bs : List Addr}, OwnF c F H ns ds fs i sub bs → m ∉ ns → fs.lookup m = none := by
    intro F H ns ds fs i sub bs r
    induction r with
    | nil => intro _; rfl
    | @fz n _ _ _ _ _ _ _ _ _ _ _ ih =>
      intro nm
      have ne : (m == n) = false := beq_eq_false_iff_ne.mpr fun z => nm (by rw [z]; exact List.mem_cons_self)
      simp only [List.lookup_cons, ne]
      exact ih fun z => nm (List.mem_cons_of_mem _ z)
    | @ow n _ _ _ _ _ _ _ _ _ _ _ _ _ ih =>
      intro nm
      have ne : (m == n) = false := beq_eq_false_iff_ne.mpr fun z => nm (by rw [z]; exact List.mem_cons_self)
      simp only [List.lookup_cons, ne]
      exact ih fun z => nm (List.mem_cons_of_mem _ z)
  cases d with
  | ins k ds =>
    have ek : k = cc := by simpa [isIns] using hi
    subst ek
    rcases h.wr S e with z | ⟨sub, b, bs, ev, z⟩
    · cases z with
      | ins f hh r => exact ⟨_, _, _, rfl, hh, lkF r hm⟩
    · cases z with
      | ins hh r => exact ⟨_, _, _, ev, hh, lkO r hm⟩
  | _ => cases hi
theorem Go.insB {α : Type} {r : R} {k : Unit → M α} {A : α → Sta → Wd → Prop} (h : Go c W σ (insM cc r >>= k) w s A) : ∃ d, rdR s r = some d ∧ isIns cc d = true ∧ Go c W σ (k ()) w s A := by
  cases e : rdR s r with
  | none => exact (h.badB (by simp [insM, e])).elim
  | some d =>
    by_cases q : isIns cc d = true
    · exact ⟨d, rfl, q, h.okB (by simp [insM, e, q])⟩
    · exact (h.badB (by simp [insM, e, q])).elim
theorem t_meth (hm : m ∉ c.fl cc) (h : tE c W (evE g (.meth a cc m j es)) σ H Q) :
    tE c W (evE g a) σ H fun x H1 => ∃ b dx fs, x = .ref b ∧ H1 b = some (.ins (c.C cc) dx fs) ∧ fs.lookup m = none ∧ tA c W (evA g es) σ H1 fun vs H2 => spOf c g j (x :: vs) H2 Q (wx c W σ) := by
  obtain ⟨w, s, rfl, S, h⟩ := h
  unfold evE at h
  refine tE.bind S h fun r s1 w1 v x S1 R1 G1 => ?_
  obtain ⟨d, e1, e2, G2⟩ := G1.insB
  obtain ⟨b, dx, fs, f1, f2, f3⟩ := R1.ins S1 e1 e2 hm
  refine ⟨b, dx, fs, f1, f2, f3, ?_⟩
  refine ⟨w1, s1, rfl, S1, (G2.bind.up x).imp fun rs s2 w2 y S2 G3 vs R2 => ?_⟩
  refine (call_go (x.trans y) S2 (.cons (R1.step S1 y) (R2.weak x)) G3).imp (fun v H' ⟨r, s', w', e, x', S', rr, q⟩ => ?_) fun _ _ _ z => z
  rw [← e]
  exact q v rr
theorem t_prop (hm : m ∉ c.fl cc) (hW : ∀ k vs s w σ, ¬ W k vs s w σ) (h : tE c W (evE g (.prop a cc m j)) σ H Q) :
    tE c W (evE g a) σ H fun x H1 => ∃ b dx fs, x = .ref b ∧ H1 b = some (.ins (c.C cc) dx fs) ∧ spOf c g j [.ref b] H1 Q fun _ _ _ => False := by
  obtain ⟨w, s, rfl, S, h⟩ := h
  unfold evE at h
  refine tE.bind S h fun r s1 w1 v x S1 R1 G1 => ?_
  obtain ⟨d, e1, e2, G2⟩ := G1.insB
  obtain ⟨b, dx, fs, f1, f2, _⟩ := R1.ins S1 e1 e2 hm
  refine ⟨b, dx, fs, f1, f2, ?_⟩
  subst f1
  refine (call_go x S1 (.cons R1 .nil) G2).imp (fun v H' ⟨r, s', w', e, x', S', rr, q⟩ => ?_) fun _ _ _ z => ?_
  · rw [← e]
    exact q v rr
  · obtain ⟨k, vs, s, w, _, _, _, z⟩ := z
    exact hW k vs s w _ z
theorem t_cmeth (h : tE c W (evE g (.cmeth cc m j es)) σ H Q) : tA c W (evA g es) σ H fun vs H1 => spOf c g j (.ref (c.C cc) :: vs) H1 Q (wx c W σ) := by
  obtain ⟨w, s, rfl, S, h⟩ := h
  unfold evE at h
  refine tA.bind S h fun rs s1 w1 vs x S1 R1 G1 => ?_
  have rc : RR c w w1 σ (.fz (.cls cc)) (.ref (c.C cc)) := Rep.cls cc
  refine (call_go x S1 (.cons rc R1) G1).imp (fun v H' ⟨r, s', w', e, x', S', rr, q⟩ => ?_) fun _ _ _ z => z
  rw [← e]
  exact q v rr
/-- a new instance -/
theorem mk_go {rs : List R} {vs : List V} {A : R → Sta → Wd → Prop} (x : Ext w0 w) (S : SR c w s.fr σ) (r : RRs c w0 w σ rs vs) (h : Go c W σ (doMk g cc j rs) w0 s A) (p dx : Addr) (hp : w.H p = none) (hd : w.H dx = none) (ne : dx ≠ p) :
    spOf c g j (.ref p :: vs) (upd (upd w.H dx (.own p)) p (.ins (c.C cc) dx [])) (fun v H' => v = .non ∧ ∃ r s' w', w'.H = H' ∧ Ext w0 w' ∧ SR c w' s'.fr σ ∧ RR c w0 w' σ r (.ref p) ∧ A r s' w') (wx c W σ) := by
  have e0 : doMk g cc j rs s = (match g.md j with
    | true :: ms => match (if boAll rs = [] then toSlots s ms (g.va j) rs else none) with
      | none => .bad
      | some sl => match g.call j (.ow (.ins cc []) [] :: sl) with
        | .ok (.fz .non) (.ow (.ins c' vs) sub :: _) _ => .ok (.ow (.ins c' vs) sub) s
        | .exc k vs _ _ => .exc k vs s
        | _ => .bad
    | _ => .bad) := rfl
  cases em : g.md j with
  | nil => rw [em] at e0; exact (h.of_bad e0).elim
  | cons m0 ms =>
    cases m0 with
    | false => rw [em] at e0; exact (h.of_bad e0).elim
    | true =>
      rw [em] at e0
      dsimp only at e0
      by_cases nb : boAll rs = []
      case neg => rw [if_neg nb] at e0; exact (h.of_bad e0).elim
      rw [if_pos nb] at e0
      cases et : toSlots s ms (g.va j) rs with
      | none => rw [et] at e0; exact (h.of_bad e0).elim
      | some sl0 =>
        rw [et] at e0
        dsimp only at e0
        obtain ⟨rs1, rs2, vs1, vs2, sl1, ds, bs, q1, q2, q3, q4, qz, q5, q6, q7, q8, q9, q10⟩ := toSlots_AR x S et r
        have nb1 : boAll rs1 = [] := by
          rw [q1, boAll_app] at nb
          exact (List.append_eq_nil_iff.mp nb).1
        have Sk := S.keep q8
        have xk := x.keep q7
        obtain ⟨Ac, A', l1, l2, l3⟩ := lend q9 (by rw [nb1]; exact List.nodup_nil) Sk.rel
        have Ac0 : Ac = [] := by
          have : ∀ {ms : List Bool} {rs : List R} {vs : List V} {sl : List Slot} {Ac : List Addr}, AR c (w.keep bs).F w.H s.fr σ ms rs vs sl → boAll rs = [] → SRel c (w.keep bs).F w.H sl (vs.map some) Ac → Ac = [] := by
            intro ms rs vs sl Ac h
            induction h generalizing Ac with
            | nil => intro _ z; cases z; rfl
            | @fz ms r rs v vs d sl nb h t ih =>
              intro n z
              cases z with
              | fz _ z =>
                refine ih ?_ z
                cases r with
                | bo i => exact absurd rfl (nb i)
                | fz _ => exact n
                | ow _ _ => exact n
            | bo _ _ _ _ => intro n _; cases n
          exact this q9 nb1 l1
        subst Ac0
        -- the heap with the new instance
        have nh : ∀ a o, w.H a = some o → (upd (upd w.H dx (.own p)) p (.ins (c.C cc) dx [])) a = some o := fun a o e => by
          rw [upd_ne (ne_of_none e hp), upd_ne (ne_of_none e hd)]
          exact e
        have hn : ∀ a, (upd (upd w.H dx (.own p)) p (.ins (c.C cc) dx [])) a = none → w.H a = none := fun a e => by
          cases q : w.H a with
          | none => rfl
          | some o => rw [nh a o q] at e; cases e
        have SC : SR c ⟨(w.keep bs).F, upd (upd w.H dx (.own p)) p (.ins (c.C cc) dx []), p :: ([] ++ [])⟩ (.ow (.ins cc []) [] :: sl1) ((V.ref p :: vs1).map some) := by
          refine ⟨?_, by simp, fun b m z => ?_, fun b z q => Sk.fd b z (hn b q)⟩
          · exact .ow (.ins upd_same .nil) (l1.mono (fun _ h => h) (fun a o _ e => nh a o e) fun a o m e => nh a o e)
          · rw [List.mem_singleton.mp m] at z
            exact Sk.fd p z hp
        refine ⟨_, V.ref p :: vs1, vs2, .ow (.ins cc []) [] :: sl1, ds, rfl, by rw [q2]; rfl, by rw [em, List.length_cons, List.length_cons, q4], qz, q6, SC, q10.mono (fun _ h => h) (fun a o _ e => nh a o e), ?_⟩
        rw [q5, ← List.cons_append] at e0
        have bk : ∀ (w' : Wd), Ext ⟨(w.keep bs).F, upd (upd w.H dx (.own p)) p (.ins (c.C cc) dx []), p :: ([] ++ [])⟩ w' → (∀ a, w'.F a → w'.H a ≠ none) → SR c ⟨w'.F, w'.H, w.A⟩ s.fr σ ∧ Ext w0 ⟨w'.F, w'.H, w.A⟩ := by
          intro w' y fd
          have pn : ∀ b ∈ w.A, b ∉ p :: ([] ++ []) := fun b m z => by
            rw [List.mem_singleton.mp z] at m
            exact S.rel.dom p m hp
          refine ⟨⟨Sk.rel.mono y.f (fun a o f e => y.h a o (nh a o e) fun m => ?_) fun a o m e => y.h a o (nh a o e) (pn a m), S.nd, fun b m z => ?_, fd⟩, xk.trans ⟨y.f, fun a o e n => y.h a o (nh a o e) fun m => ?_, fun a z => ?_, fun b m => .inl m, fun a z => y.d a fun q => z (hn a q)⟩⟩
          · rw [List.mem_singleton.mp m] at e
            have e : w.H p = some o := e
            rw [hp] at e; cases e
          · rcases y.g b z with q | q | q
            · exact Sk.nf b m q
            · exact S.rel.dom b m (hn b q)
            · exact pn b m q
          · rw [List.mem_singleton.mp m] at e
            have e : w.H p = some o := e
            rw [hp] at e; cases e
          · rcases y.g a z with q | q | q
            · exact .inl q
            · exact .inr (.inl (hn a q))
            · rw [List.mem_singleton.mp q]; exact .inr (.inl hp)
        cases ec : g.call j ((.ow (.ins cc []) [] :: sl1) ++ if g.va j then [.fz (.tup ds)] else []) with
        | bad => rw [ec] at e0; exact (h.of_bad e0).elim
        | exc k us outs tr =>
          rw [ec] at e0
          intro w' cls d y So xr
          obtain ⟨S2, x2⟩ := bk w' y So.fd
          refine ⟨k, us, s, ⟨w'.F, w'.H, w.A⟩, rfl, S2, xr, ?_⟩
          unfold Go at h
          rw [e0] at h
          exact h _ x2 S2
        | ok r0 outs tr =>
          rw [ec] at e0
          intro w' v y So rr
          obtain ⟨S2, x2⟩ := bk w' y So.fd
          cases r0 with
          | fz d =>
            cases d with
            | non =>
              cases outs with
              | nil => exact (h.of_bad e0).elim
              | cons o1 os =>
                cases o1 with
                | ow d1 sub1 =>
                  cases d1 with
                  | ins c' us =>
                    have e0 : doMk g cc j rs s = .ok (.ow (.ins c' us) sub1) s := e0
                    refine ⟨by cases rr; rfl, .ow (.ins c' us) sub1, s, ⟨w'.F, w'.H, w.A⟩, rfl, x2, S2, ?_, Go.of_ok h e0 x2 S2⟩
                    have sr := So.rel
                    have nd := So.nd
                    have nf := So.nf
                    have yA := y.a
                    rw [List.length_map, List.length_cons, List.take_succ_cons] at sr
                    generalize hA : w'.A = AA at sr nd nf yA
                    cases sr with
                    | @ow _ _ _ as _ _ A1 o _ =>
                      have nd1 : (p :: as).Nodup := by
                        rw [← List.cons_append] at nd
                        exact (List.nodup_append.mp nd).1
                      refine ⟨p, as, rfl, o, nd1, fun b m => ?_⟩
                      have mA : b ∈ p :: (as ++ A1) := by rw [← List.cons_append]; exact List.mem_append_left _ m
                      have hb : w.H b = none := by
                        rcases yA b mA with q | q
                        · rw [List.mem_singleton.mp q]; exact hp
                        · exact hn b q
                      exact ⟨nf b mA, fun z => S.rel.dom b z hb, .inr (Classical.byContradiction fun q => x.d b q hb)⟩
                  | _ => exact (h.of_bad e0).elim
                | _ => exact (h.of_bad e0).elim
            | _ => exact (h.of_bad e0).elim
          | _ => exact (h.of_bad e0).elim
theorem t_mk (h : tE c W (evE g (.mk cc j es)) σ H Q) : tMkP (c.C cc) (spOf c g j) (wx c W) (tA c W (evA g es)) σ H Q := by
  obtain ⟨w, s, rfl, S, h⟩ := h
  unfold evE at h
  refine tA.bind S h fun rs s1 w1 vs x S1 R1 G1 => fun p dx hp hd ne => ?_
  refine (mk_go x S1 R1 G1 p dx hp hd ne).imp (fun v H' ⟨ev, r, s', w', e, x', S', rr, q⟩ => ⟨ev, ?_⟩) fun _ _ _ z => z
  rw [← e]
  exact q _ rr
theorem t_mkv {i : Nat} (h : tE c W (evE g (.mkv i cc j es)) σ H Q) : σ[i]? = some (some (.ref (c.C cc))) ∧ tMkP (c.C cc) (spOf c g j) (wx c W) (tA c W (evA g es)) σ H Q := by
  obtain ⟨w, s, rfl, S, h⟩ := h
  unfold evE at h
  obtain ⟨y, e, h⟩ := h.getB
  cases y with
  | fz d =>
    cases d with
    | cls c' =>
      obtain ⟨v, ev, rv⟩ := S.rel.getF e
      have h2 : Go c W σ (if c' = cc then (evA g es >>= fun rs => doMk g cc j rs) else M.bad) w s _ := h
      by_cases q : c' = cc
      · rw [if_pos q] at h2
        have h := h2
        subst q
        cases rv
        refine ⟨ev, ?_⟩
        refine tA.bind S h fun rs s1 w1 vs x S1 R1 G1 => fun p dx hp hd ne => ?_
        refine (mk_go x S1 R1 G1 p dx hp hd ne).imp (fun v H' ⟨ev, r, s', w', e, x', S', rr, q⟩ => ⟨ev, ?_⟩) fun _ _ _ z => z
        rw [← e]
        exact q _ rr
      · rw [if_neg q] at h2; exact (h2.of_bad rfl).elim
    | _ => exact (h.of_bad rfl).elim
  | _ => exact (h.of_bad rfl).elim
end
end Mi

set_option Elab.async false
set_option linter.all false
set_option maxRecDepth 100000
set_option maxHeartbeats 2000000
/-! Mi: statements' readings. -/
namespace Mi
open PySem L2
section
variable (c : Cn) (W : XW) (P : St → Prop)
/-- .. where the names' values may change, within P -/
def GoS {α : Type} (m : M α) (w : Wd) (s : Sta) (A : α → Sta → Wd → St → Prop) : Prop :=
  match m s with
  | .ok a s' => ∀ w' σ', Ext w w' → P σ' → SR c w' s'.fr σ' → A a s' w' σ'
  | .exc k vs s' => ∀ w' σ', Ext w w' → P σ' → SR c w' s'.fr σ' → W k vs s' w' σ'
  | .bad => False
/-- what is wanted at a statement's end -/
def fin (D : Ends) (w : Wd) : Fl → Sta → Wd → St → Prop
  | .nx, _, w', σ' => D.nx σ' w'.H
  | .brk, _, w', σ' => D.bk σ' w'.H
  | .cnt, _, w', σ' => D.ct σ' w'.H
  | .ret r, _, w', σ' => ∀ v, RR c w w' σ' r v → D.rt v w'.H
def tS (m : M Fl) : TS := fun D σ H => P σ ∧ ∃ w s, w.H = H ∧ SR c w s.fr σ ∧ GoS c W P m w s (fin c D w)
end
section
variable {c : Cn} {W : XW} {P : St → Prop} {g : G} {σ : St} {H : Hp} {Q : VK} {α β : Type} {w w0 w1 : Wd} {s s1 : Sta} {A : β → Sta → Wd → St → Prop}
theorem GoS.bind {m : M α} {k : α → M β} (h : GoS c W P (m >>= k) w s A) : GoS c W P m w s fun a s1 _ _ => GoS c W P (k a) w s1 A := by
  have e : (m >>= k) s = (match m s with | .ok a s' => k a s' | .exc c v s' => .exc c v s' | .bad => .bad) := rfl
  unfold GoS at h ⊢
  rw [e] at h
  cases q : m s with
  | bad => rw [q] at h; exact h.elim
  | exc k' vs s' => rw [q] at h; exact h
  | ok a s' => rw [q] at h; exact fun _ _ _ _ _ => h
/-- an expression first -/
theorem GoS.exp {m : M α} {k : α → M β} (p : P σ) (h : GoS c W P (m >>= k) w s A) : Go c W σ m w s fun a s1 _ => GoS c W P (k a) w s1 A := by
  have h := h.bind
  unfold GoS at h
  unfold Go
  cases q : m s with
  | bad => rw [q] at h; exact h.elim
  | exc k' vs s' => rw [q] at h; exact fun w' x S => h w' σ x p S
  | ok a s' => rw [q] at h; exact fun w' x S => h w' σ x p S
theorem GoS.up {m : M β} (h : GoS c W P m w s A) (x : Ext w w1) : GoS c W P m w1 s A := by
  unfold GoS at h ⊢
  cases q : m s with
  | bad => rw [q] at h; exact h.elim
  | exc k' vs s' => rw [q] at h; exact fun w' σ' y p S => h w' σ' (x.trans y) p S
  | ok a s' => rw [q] at h; exact fun w' σ' y p S => h w' σ' (x.trans y) p S
theorem GoS.imp {m : M β} {B : β → Sta → Wd → St → Prop} (h : GoS c W P m w s A) (hq : ∀ a s1 w1 σ1, Ext w w1 → P σ1 → SR c w1 s1.fr σ1 → A a s1 w1 σ1 → B a s1 w1 σ1) : GoS c W P m w s B := by
  unfold GoS at h ⊢
  cases q : m s with
  | bad => rw [q] at h; exact h.elim
  | exc k' vs s' => rw [q] at h; exact h
  | ok a s' => rw [q] at h; exact fun w' σ' x p S => hq _ _ _ _ x p S (h w' σ' x p S)
theorem GoS.of_ok {m : M β} {a : β} (h : GoS c W P m w s A) (e : m s = .ok a s1) (x : Ext w w1) (p : P σ) (S : SR c w1 s1.fr σ) : A a s1 w1 σ := by
  unfold GoS at h
  rw [e] at h
  exact h w1 σ x p S
theorem GoS.of_bad {m : M β} (h : GoS c W P m w s A) (e : m s = .bad) : False := by
  unfold GoS at h
  rw [e] at h
  exact h
theorem GoS.eqM {m m' : M β} (h : GoS c W P m w s A) (e : m s = m' s) : GoS c W P m' w s A := by
  unfold GoS at h ⊢
  rw [← e]
  exact h
theorem GoS.okB {a : α} {m : M α} {k : α → M β} (h : GoS c W P (m >>= k) w s A) (e : m s = .ok a s1) : GoS c W P (k a) w s1 A := by
  have e2 : (m >>= k) s = k a s1 := by
    show (match m s with | .ok a s' => k a s' | .exc c v s' => .exc c v s' | .bad => .bad) = _
    rw [e]
  unfold GoS at h ⊢
  rw [e2] at h
  exact h
theorem GoS.badB {m : M α} {k : α → M β} (h : GoS c W P (m >>= k) w s A) (e : m s = .bad) : False := by
  refine h.of_bad ?_
  show (match m s with | .ok a s' => k a s' | .exc c v s' => .exc c v s' | .bad => .bad) = _
  rw [e]
theorem GoS.optB {o : Option α} {k : α → M β} (h : GoS c W P (M.opt o >>= k) w s A) : ∃ a, o = some a ∧ GoS c W P (k a) w s A := by
  cases o with
  | none => exact (h.badB rfl).elim
  | some a => exact ⟨a, rfl, h.okB rfl⟩
theorem GoS.getB {i : Nat} {k : Slot → M β} (h : GoS c W P (getS i >>= k) w s A) : ∃ x, s.fr[i]? = some x ∧ GoS c W P (k x) w s A := by
  cases q : s.fr[i]? with
  | none => exact (h.badB (by simp [getS, q])).elim
  | some ds => exact ⟨ds, rfl, h.okB (by simp [getS, q])⟩
theorem GoS.setB {i : Nat} {x : Slot} {k : Unit → M β} (h : GoS c W P (setS i x >>= k) w s A) : i < s.fr.length ∧ GoS c W P (k ()) w { s with fr := s.fr.set i x } A := by
  by_cases q : i < s.fr.length
  · exact ⟨q, h.okB (by simp [setS, q])⟩
  · exact (h.badB (by simp [setS, q])).elim
/-- at a statement's beginning -/
theorem tE.stm {m : M R} {k : R → M β} (p : P σ) (S : SR c w s.fr σ) (h : GoS c W P (m >>= k) w s A)
    (hq : ∀ r s1 w1 v, Ext w w1 → SR c w1 s1.fr σ → RR c w w1 σ r v → GoS c W P (k r) w s1 A → Q v w1.H) : tE c W m σ w.H Q :=
  ⟨w, s, rfl, S, (h.exp p).imp fun r s1 w1 x S1 g v q => hq r s1 w1 v x S1 q g⟩
theorem tA.stm {m : M (List R)} {k : List R → M β} {Q : List V → Hp → Prop} (p : P σ) (S : SR c w s.fr σ) (h : GoS c W P (m >>= k) w s A)
    (hq : ∀ r s1 w1 v, Ext w w1 → SR c w1 s1.fr σ → RRs c w w1 σ r v → GoS c W P (k r) w s1 A → Q v w1.H) : tA c W m σ w.H Q :=
  ⟨w, s, rfl, S, (h.exp p).imp fun r s1 w1 x S1 g v q => hq r s1 w1 v x S1 q g⟩
theorem tT.stm {m : M Bool} {k : Bool → M β} {Q : Bool → Hp → Prop} (p : P σ) (S : SR c w s.fr σ) (h : GoS c W P (m >>= k) w s A)
    (hq : ∀ b s1 w1, Ext w w1 → SR c w1 s1.fr σ → GoS c W P (k b) w s1 A → Q b w1.H) : tT c W m σ w.H Q :=
  ⟨w, s, rfl, S, (h.exp p).imp fun b s1 w1 x S1 g => hq b s1 w1 x S1 g⟩
/-- .. later: w0 the beginning -/
theorem tE.stm' {m : M R} {k : R → M β} (p : P σ) (x0 : Ext w0 w) (S : SR c w s.fr σ) (h : GoS c W P (m >>= k) w0 s A)
    (hq : ∀ r s1 w1 v, Ext w w1 → SR c w1 s1.fr σ → RR c w w1 σ r v → GoS c W P (k r) w0 s1 A → Q v w1.H) : tE c W m σ w.H Q :=
  ⟨w, s, rfl, S, ((h.exp p).up x0).imp fun r s1 w1 x S1 g v q => hq r s1 w1 v x S1 q g⟩
theorem tT.stm' {m : M Bool} {k : Bool → M β} {Q : Bool → Hp → Prop} (p : P σ) (x0 : Ext w0 w) (S : SR c w s.fr σ) (h : GoS c W P (m >>= k) w0 s A)
    (hq : ∀ b s1 w1, Ext w w1 → SR c w1 s1.fr σ → GoS c W P (k b) w0 s1 A → Q b w1.H) : tT c W m σ w.H Q :=
  ⟨w, s, rfl, S, ((h.exp p).up x0).imp fun b s1 w1 x S1 g => hq b s1 w1 x S1 g⟩
/-- the ends, seen from later -/
theorem fin.weak {D : Ends} {f : Fl} {w' : Wd} (x : Ext w w1) (h : fin c D w f s w' σ) : fin c D w1 f s w' σ := by
  cases f with
  | ret r => exact fun v rr => h v (rr.weak x)
  | _ => exact h

/-! ### storing -/
theorem sub_mem {A' A : List Addr} (h : A'.Sublist A) : ∀ b ∈ A', b ∈ A := fun b m => h.subset m
/-- a name gets a value -/
theorem SR.setF {fr : List Slot} {i : Nat} {d : D} {v : V} (S : SR c w fr σ) (l : i < fr.length) (r : Rep c w.F w.H d v) : ∃ A', SR c ⟨w.F, w.H, A'⟩ (fr.set i (.fz d)) (σ.set i (some v)) ∧ Ext w ⟨w.F, w.H, A'⟩ ∧ ∀ b ∈ A', b ∈ w.A := by
  obtain ⟨A', h1, h2⟩ := S.rel.setF l r
  exact ⟨A', ⟨h1, S.nd.sublist h2, fun b m => S.nf b (h2.subset m), S.fd⟩, ⟨fun _ h => h, fun _ _ e _ => e, fun _ h => .inl h, fun b m => .inl (h2.subset m), fun _ h => h⟩, fun b m => h2.subset m⟩
/-- .. an object of its own -/
theorem SR.setO {fr : List Slot} {i : Nat} {d : D} {sub : List Nat} {a : Addr} {bs : List Addr} (S : SR c w fr σ) (l : i < fr.length) (o : Own c w.F w.H d sub a bs) (nd : (a :: bs).Nodup) (nf : ∀ b ∈ a :: bs, ¬ w.F b ∧ b ∉ w.A) :
    ∃ A', SR c ⟨w.F, w.H, A'⟩ (fr.set i (.ow d sub)) (σ.set i (some (.ref a))) ∧ ∀ b ∈ A', b ∈ w.A ∨ b ∈ a :: bs := by
  obtain ⟨A1, A2, h1, h2⟩ := S.rel.setO l o
  have nd12 : (A1 ++ A2).Nodup := S.nd.sublist h2
  have pm : (A1 ++ a :: (bs ++ A2)).Perm ((a :: bs) ++ (A1 ++ A2)) := by
    have z : A1 ++ a :: (bs ++ A2) = A1 ++ (a :: bs) ++ A2 := by rw [List.append_assoc, List.cons_append]
    rw [z]
    refine (List.Perm.append_right _ List.perm_append_comm).trans ?_
    rw [List.append_assoc]
  have mem : ∀ b ∈ A1 ++ a :: (bs ++ A2), b ∈ w.A ∨ b ∈ a :: bs := fun b m => (List.mem_append.mp (pm.mem_iff.mp m)).elim .inr fun z => .inl (h2.subset z)
  refine ⟨_, ⟨h1, pm.nodup_iff.mpr (List.nodup_append.mpr ⟨nd, nd12, fun b m b' m' e => (nf b m).2 (h2.subset (by rw [e]; exact m'))⟩), fun b m => (mem b m).elim (S.nf b) fun z => (nf b z).1, S.fd⟩, mem⟩
/-- x = r -/
theorem bind_go {wb : Wd} {i : Nat} {o : Bool} {r : R} {v : V} {k : Unit → M β} (xb : Ext w0 wb) (y : Ext wb w) (S : SR c w s.fr σ) (rr : RR c wb w σ r v) (h : GoS c W P (bindM i o r >>= k) w0 s A) :
    ∃ (s' : Sta) (w' : Wd) (adr : List Addr), w'.H = w.H ∧ Ext w0 w' ∧ SR c w' s'.fr (σ.set i (some v)) ∧ GoS c W P (k ()) w0 s' A ∧ (∀ b, w.F b → w'.F b) ∧ (∀ b, w'.F b → w.F b ∨ b ∈ adr) ∧ (∀ b ∈ w'.A, b ∈ w.A ∨ b ∈ adr) ∧ (∀ b ∈ adr, b ∈ wb.A ∨ wb.H b = none) ∧ s'.out = s.out := by
  cases o with
  | false =>
    have h : GoS c W P (M.opt (keepR r) >>= fun d => setS i (.fz d) >>= k) w0 s A := h.eqM (by
      show M.bind (M.bind (M.opt (keepR r)) _) _ s = M.bind _ _ s
      unfold M.bind
      cases keepR r <;> rfl)
    obtain ⟨d, e, h⟩ := h.optB
    obtain ⟨l, h⟩ := h.setB
    obtain ⟨bs, b1, b2, b3⟩ := rr.kept y S e
    have Sk := S.keep b2
    obtain ⟨A', S', x', sub⟩ := Sk.setF l b3
    exact ⟨{ s with fr := s.fr.set i (.fz d) }, ⟨(w.keep bs).F, w.H, A'⟩, bs, rfl, xb.trans ((y.keep b1).trans x'), S', h, fun b z => .inl z, fun b z => z, fun b z => .inl (sub b z), b1, rfl⟩
  | true =>
    cases r with
    | fz d => exact (h.badB rfl).elim
    | bo d => exact (h.badB rfl).elim
    | ow d sub =>
      have h : GoS c W P (setS i (.ow d sub) >>= k) w0 s A := h
      obtain ⟨l, h⟩ := h.setB
      obtain ⟨a, bs, ev, o, nd, q⟩ := rr
      subst ev
      obtain ⟨A', S', mem⟩ := S.setO l o nd fun b m => ⟨(q b m).1, (q b m).2.1⟩
      refine ⟨{ s with fr := s.fr.set i (.ow d sub) }, ⟨w.F, w.H, A'⟩, a :: bs, rfl, xb.trans ⟨y.f, y.h, y.g, fun b m => ?_, y.d⟩, S', h, fun b z => z, fun b z => .inl z, mem, fun b m => (q b m).2.2, rfl⟩
      rcases mem b m with z | z
      · exact y.a b z
      · exact (q b z).2.2
/-- a value that was there before stays what it was -/
theorem RR.past {wb w' : Wd} {adr : List Addr} {r : R} {v : V} {i : Nat} {u : V} {fr0 : List Slot} (hH : w'.H = w.H) (f1 : ∀ b, w.F b → w'.F b) (f2 : ∀ b, w'.F b → w.F b ∨ b ∈ adr) (f3 : ∀ b ∈ w'.A, b ∈ w.A ∨ b ∈ adr)
    (nb : ∀ i, r ≠ .bo i) (out : ∀ a, wb.H a ≠ none → a ∉ wb.A → a ∉ adr) (hr : RR c w0 wb σ r v) (xr : Ext wb w) (Sb : SR c wb fr0 σ) : RR c w0 w' (σ.set i (some u)) r v := by
  cases r with
  | bo j => exact absurd rfl (nb j)
  | fz d => exact Rep.mono f1 (fun a o _ e => by rw [hH]; exact e) (hr.step Sb xr)
  | ow d sub =>
    obtain ⟨a, bs, e, o, nd, q⟩ := hr
    have o1 := Sb.own xr o fun b m => (q b m).2.1
    refine ⟨a, bs, e, o1.mono f1 (fun a o _ e => by rw [hH]; exact e) (fun b o' _ e => by rw [hH]; exact e), nd, fun b m => ?_⟩
    have hb := o.dom b m
    have no := out b hb (q b m).2.1
    refine ⟨fun z => (f2 b z).elim (xr.notF hb (q b m).1 (q b m).2.1) no, fun z => (f3 b z).elim (xr.notA hb (q b m).2.1) no, (q b m).2.2⟩
/-- an own object is changed -/
theorem SR.updO {fr : List Slot} {i : Nat} {d : D} {sub : List Nat} (S : SR c w fr σ) (e : fr[i]? = some (.ow d sub)) : ∃ a bs, σ[i]? = some (some (.ref a)) ∧ Own c w.F w.H d sub a bs ∧ (a :: bs).Nodup ∧ (∀ b ∈ a :: bs, ¬ w.F b) ∧
    ∀ d' o', Own c w.F (upd w.H a o') d' sub a bs → ∃ A', SR c ⟨w.F, upd w.H a o', A'⟩ (fr.set i (.ow d' sub)) σ ∧ Ext w ⟨w.F, upd w.H a o', A'⟩ := by
  obtain ⟨a, bs, A', ev, x, S', rr, mem, o, dj, nd⟩ := S.take e
  refine ⟨a, bs, ev, o, nd, fun b m => S.nf b ((mem b).mpr (.inl m)), fun d' o' on => ?_⟩
  have ma : a ∈ w.A := (mem a).mpr (.inl List.mem_cons_self)
  have ne : ∀ b, w.F b → b ≠ a := fun b f z => S.nf a ma (by rw [← z]; exact f)
  have l : i < fr.length := (List.getElem?_eq_some_iff.mp e).1
  have S2 : SR c ⟨w.F, upd w.H a o', A'⟩ (fr.set i .emp) σ := ⟨S'.rel.mono (fun _ h => h) (fun b u f e => by
      show upd w.H a o' b = _
      rw [upd_ne (ne b f)]; exact e) fun b u m e => by
      show upd w.H a o' b = _
      rw [upd_ne (fun z => dj b (by rw [z]; exact List.mem_cons_self) m)]; exact e, S'.nd, S'.nf, fun b f => by
      show upd w.H a o' b ≠ none
      rw [upd_ne (ne b f)]; exact S.fd b f⟩
  obtain ⟨A2, S3, mem2⟩ := S2.setO (i := i) (by rw [List.length_set]; exact l) on nd fun b m => ⟨S.nf b ((mem b).mpr (.inl m)), dj b m⟩
  rw [List.set_set] at S3
  have self : σ.set i (some (.ref a)) = σ := by
    apply List.ext_getElem?
    intro j
    by_cases q : i = j
    · subst q
      rw [List.getElem?_set_self (List.getElem?_eq_some_iff.mp ev).1, ev]
    · rw [List.getElem?_set_ne q]
  rw [self] at S3
  refine ⟨A2, S3, ⟨fun _ h => h, fun b u e n => ?_, fun _ h => .inl h, fun b m => .inl ?_, fun b z => ?_⟩⟩
  · show upd w.H a o' b = _
    rw [upd_ne (fun z => n (by rw [z]; exact ma))]; exact e
  · rcases mem2 b m with q | q
    · exact (mem b).mpr (.inr q)
    · exact (mem b).mpr (.inl q)
  · show upd w.H a o' b ≠ none
    by_cases q : b = a
    · rw [q, upd_same]; exact fun z => by cases z
    · rw [upd_ne q]; exact z
/-! ### the statements -/
theorem s_expr {e : CE} {D : Ends} (h : tS c W P (evS g (.expr e)) D σ H) : tDrop (tE c W (evE g e)) D σ H := by
  obtain ⟨p, w, s, rfl, S, h⟩ := h
  unfold evS at h
  exact tE.stm p S h fun r s1 w1 v x S1 R1 G1 => GoS.of_ok G1 (a := Fl.nx) rfl x p S1
theorem s_asg {i : Nat} {o : Bool} {e : CE} {D : Ends} (hP : ∀ v, P σ → P (σ.set i (some v))) (h : tS c W P (evS g (.asg i o e)) D σ H) : tAsg (tE c W (evE g e)) (gName i) D σ H := by
  obtain ⟨p, w, s, rfl, S, h⟩ := h
  unfold evS at h
  refine tE.stm p S h fun r s1 w1 v x S1 R1 G1 => ?_
  obtain ⟨s', w', adr, eH, x', S', G2, _⟩ := bind_go (Ext.refl w) x S1 R1 G1
  show D.nx _ _
  rw [← eH]
  exact GoS.of_ok G2 (a := Fl.nx) rfl x' (hP v p) S'
theorem s_par {i j : Nat} {o q : Bool} {a b : CE} {D : Ends} (hij : i ≠ j) (hP : ∀ v u, P σ → P ((σ.set i (some v)).set j (some u))) (h : tS c W P (evS g (.par2 i o a j q b)) D σ H) :
    tPar i j (tCons (tE c W (evE g a)) (tCons (tE c W (evE g b)) tNil)) D σ H := by
  obtain ⟨p, w, s, rfl, S, h⟩ := h
  unfold evS at h
  show tE c W (evE g a) σ w.H (fun v H1 => tE c W (evE g b) σ H1 (fun u H2 => ∃ v' u', [v, u] = [v', u'] ∧ D.nx ((σ.set i (some v')).set j (some u')) H2))
  refine tE.stm p S h fun r s1 w1 v x S1 R1 G1 => ?_
  refine tE.stm' p x S1 G1 fun r2 s2 w2 u y S2 R2 G2 => ?_
  refine ⟨v, u, rfl, ?_⟩
  obtain ⟨s3, w3, adr, eH, x3, S3, G3, f1, f2, f3, f4, _⟩ := bind_go x y S2 R2 G2
  have nb : ∀ i, r ≠ .bo i := fun i z => by
    subst z
    cases o with
    | false => exact G3.badB rfl
    | true => exact G3.badB rfl
  have Rp : RR c w w3 (σ.set j (some u)) r v := RR.past eH f1 f2 f3 nb (fun a h n m => (f4 a m).elim n h) R1 y S1
  obtain ⟨s4, w4, _, eH4, x4, S4, G4, _⟩ := bind_go (Ext.refl w) x3 S3 Rp G3
  rw [List.set_comm _ _ (fun z => hij z.symm)] at S4
  show D.nx _ _
  rw [← eH, ← eH4]
  exact GoS.of_ok G4 (a := Fl.nx) rfl x4 (hP v u p) S4
theorem s_pass {D : Ends} (h : tS c W P (evS g .pass) D σ H) : tNext D σ H := by
  obtain ⟨p, w, s, rfl, S, h⟩ := h
  unfold evS at h
  exact GoS.of_ok h (a := Fl.nx) rfl (Ext.refl w) p S
theorem s_brk {D : Ends} (h : tS c W P (evS g .brk) D σ H) : tBreak D σ H := by
  obtain ⟨p, w, s, rfl, S, h⟩ := h
  unfold evS at h
  exact GoS.of_ok h (a := Fl.brk) rfl (Ext.refl w) p S
theorem s_cnt {D : Ends} (h : tS c W P (evS g .cnt) D σ H) : tCont D σ H := by
  obtain ⟨p, w, s, rfl, S, h⟩ := h
  unfold evS at h
  exact GoS.of_ok h (a := Fl.cnt) rfl (Ext.refl w) p S
theorem s_never {D : Ends} (h : tS c W P (evS g .never) D σ H) : tNever D σ H := by
  obtain ⟨p, w, s, rfl, S, h⟩ := h
  unfold evS at h
  exact h.of_bad rfl
theorem s_ret {e : CE} {D : Ends} (h : tS c W P (evS g (.ret e)) D σ H) : tRet (tE c W (evE g e)) D σ H := by
  obtain ⟨p, w, s, rfl, S, h⟩ := h
  unfold evS at h
  refine tE.stm p S h fun r s1 w1 v x S1 R1 G1 => ?_
  cases r with
  | bo i => exact (G1.of_bad rfl).elim
  | fz d => exact GoS.of_ok G1 (a := Fl.ret (.fz d)) rfl x p S1 v R1
  | ow d sub => exact GoS.of_ok G1 (a := Fl.ret (.ow d sub)) rfl x p S1 v R1
theorem s_retN {D : Ends} (h : tS c W P (evS g .retN) D σ H) : tRetN D σ H := by
  obtain ⟨p, w, s, rfl, S, h⟩ := h
  unfold evS at h
  exact GoS.of_ok h (a := Fl.ret (.fz .non)) rfl (Ext.refl w) p S _ Rep.non
theorem s_ite {t : CT} {a b : CB} {D : Ends} (h : tS c W P (evS g (.ite t a b)) D σ H) : tIfS (tT c W (evT g t)) (tS c W P (evB g a)) (tS c W P (evB g b)) D σ H := by
  obtain ⟨p, w, s, rfl, S, h⟩ := h
  unfold evS at h
  refine tT.stm p S h fun k s1 w1 x S1 G1 => ?_
  cases k with
  | true => exact ⟨p, w1, s1, rfl, S1, ((G1.eqM rfl).up x).imp fun f s2 w2 σ2 _ _ _ z => z.weak x⟩
  | false => exact ⟨p, w1, s1, rfl, S1, ((G1.eqM rfl).up x).imp fun f s2 w2 σ2 _ _ _ z => z.weak x⟩
theorem b_nil {D : Ends} (h : tS c W P (evB g .nil) D σ H) : tNext D σ H := by
  obtain ⟨p, w, s, rfl, S, h⟩ := h
  unfold evB at h
  exact GoS.of_ok h (a := Fl.nx) rfl (Ext.refl w) p S
theorem b_cons {st : CS} {r : CB} {D : Ends} (h : tS c W P (evB g (.cons st r)) D σ H) : tSeq (tS c W P (evS g st)) (tS c W P (evB g r)) D σ H := by
  obtain ⟨p, w, s, rfl, S, h⟩ := h
  unfold evB at h
  refine ⟨p, w, s, rfl, S, h.bind.imp fun f s1 w1 σ1 x p1 S1 G1 => ?_⟩
  cases f with
  | nx => exact ⟨p1, w1, s1, rfl, S1, (G1.up x).imp fun f s2 w2 σ2 _ _ _ z => z.weak x⟩
  | brk => exact GoS.of_ok (W := W) G1 (a := Fl.brk) rfl x p1 S1
  | cnt => exact GoS.of_ok (W := W) G1 (a := Fl.cnt) rfl x p1 S1
  | ret r => exact GoS.of_ok (W := W) G1 (a := Fl.ret r) rfl x p1 S1
/-! changing an own object -/
theorem keep_go {wb : Wd} {r : R} {v : V} {k : D → M β} (xb : Ext w0 wb) (y : Ext wb w) (S : SR c w s.fr σ) (rr : RR c wb w σ r v) (h : GoS c W P (keepM r >>= k) w0 s A) :
    ∃ d w', w'.H = w.H ∧ w'.A = w.A ∧ Ext w0 w' ∧ SR c w' s.fr σ ∧ Rep c w'.F w'.H d v ∧ GoS c W P (k d) w0 s A ∧ (∀ b, w.F b → w'.F b) ∧ (∀ b, w'.F b → w.F b ∨ (b ∈ wb.A ∨ wb.H b = none)) := by
  have h : GoS c W P (M.opt (keepR r) >>= k) w0 s A := h
  obtain ⟨d, e, h⟩ := h.optB
  obtain ⟨bs, b1, b2, b3⟩ := rr.kept y S e
  exact ⟨d, w.keep bs, rfl, rfl, xb.trans (y.keep b1), S.keep b2, b3, h, fun b z => .inl z, fun b z => z.imp id (b1 b)⟩
theorem updI_go {i : Nat} {f : D → Option D} {k : Unit → M β} (h : GoS c W P (updI i f >>= k) w0 s A) : ∃ d sub d', s.fr[i]? = some (.ow d sub) ∧ f d = some d' ∧ GoS c W P (k ()) w0 { s with fr := s.fr.set i (.ow d' sub) } A := by
  cases e : s.fr[i]? with
  | none =>
    refine (h.badB ?_).elim
    show M.bind (getS i) _ s = _
    simp [M.bind, getS, e]
  | some x =>
    cases x with
    | ow d sub =>
      cases e2 : f d with
      | none =>
        refine (h.badB ?_).elim
        show M.bind (getS i) _ s = _
        simp [M.bind, getS, e, e2]
        rfl
      | some d' =>
        refine ⟨d, sub, d', rfl, e2, h.okB ?_⟩
        have l : i < s.fr.length := (List.getElem?_eq_some_iff.mp e).1
        have e3 : getS i s = .ok (.ow d sub) s := by simp [getS, e]
        show M.bind (getS i) _ s = _
        unfold M.bind
        rw [e3]
        dsimp only
        rw [e2]
        simp [setS, l]
    | emp =>
      refine (h.badB ?_).elim
      show M.bind (getS i) _ s = _
      simp [M.bind, getS, e]
      rfl
    | fz d =>
      refine (h.badB ?_).elim
      show M.bind (getS i) _ s = _
      simp [M.bind, getS, e]
      rfl
end
end Mi

set_option Elab.async false
set_option linter.all false
set_option maxRecDepth 100000
set_option maxHeartbeats 2000000
/-! Mi: changing what is a name's own. -/
namespace L2
open PySem PySem.Spec PyProof.Rows
section
variable {X : Cx}
theorem set_dict (hu : X.A.units + 1 < cLine) : PSet X (fun o i v H Q => ∃ a H', o = .ref a ∧ DPut H a i v H' ∧ Q H') := by
  intro pins s σ H o i v ov iv u Q I ro ri rv h
  obtain ⟨a, H', rfl, g, q⟩ := h
  cases ro
  exact d_setItem hu I g ri rv fun s' I' => ⟨H', I', q⟩
theorem PSet.or {t t' : TSet} (h : PSet X t) (h' : PSet X t') : PSet X (fun o i v H Q => t o i v H Q ∨ t' o i v H Q) := by
  intro pins s σ H o i v ov iv u Q I ro ri rv q
  rcases q with q | q
  · exact h pins s σ H o i v ov iv u Q I ro ri rv q
  · exact h' pins s σ H o i v ov iv u Q I ro ri rv q
def rSetA : TSet := fun o i v H Q => rSetL o i v H Q ∨ ∃ a H', o = .ref a ∧ DPut H a i v H' ∧ Q H'
theorem set_any (hu : X.A.units + 1 < cLine) : PSet X rSetA := set_list.or (set_dict hu)
end
end L2
namespace Mi
open PySem L2
section
variable {c : Cn} {W : XW} {P : St → Prop} {g : G} {σ : St} {H : Hp} {Q : VK} {α β : Type} {w w0 w1 : Wd} {s s1 : Sta} {A : β → Sta → Wd → St → Prop}
theorem Own.upL {sub : List Nat} {a : Addr} {bs : List Addr} {ds d' : List D} {vs : List V} {F : Addr → Prop} {H : Hp} (o : Own c F H (.lst ds) sub a bs) (nF : ¬ F a) (r : Reps c F H d' vs) : Own c F (upd H a (.lst vs)) (.lst d') sub a bs := by
  cases o with
  | lst h _ => exact .lst upd_same (r.mono (fun _ h => h) fun b o f e => by
      rw [upd_ne (fun z => nF (by rw [← z]; exact f))]; exact e)
theorem Own.upD {sub : List Nat} {a : Addr} {bs : List Addr} {ds d' : List (Key × D)} {vs : List (Key × V)} {F : Addr → Prop} {H : Hp} (o : Own c F H (.dic ds) sub a bs) (nF : ¬ F a) (r : RepK c F H d' vs) : Own c F (upd H a (.dK vs)) (.dic d') sub a bs := by
  cases o with
  | dic h _ => exact .dic upd_same (r.mono (fun _ h => h) fun b o f e => by
      rw [upd_ne (fun z => nF (by rw [← z]; exact f))]; exact e)
/-- what stands at an own list, dict -/
theorem SR.ownNF {fr : List Slot} {i : Nat} {d : D} {sub : List Nat} (S : SR c w fr σ) (e : fr[i]? = some (.ow d sub)) {a : Addr} (ev : σ[i]? = some (some (.ref a))) : ¬ w.F a ∧ ∃ bs, Own c w.F w.H d sub a bs := by
  obtain ⟨a', bs, A1, A2, e1, o, e2, _⟩ := S.rel.getO e
  rw [ev] at e1
  cases e1
  exact ⟨S.nf a (by rw [e2]; exact List.mem_append_right _ List.mem_cons_self), bs, o⟩
theorem GoS.ownB {i : Nat} {f : Nat → Bool} {k : Unit → M β} (h : GoS c W P (ownM i f >>= k) w s A) : ∃ d sub, s.fr[i]? = some (.ow d sub) ∧ f (tag d) = true ∧ GoS c W P (k ()) w s A := by
  cases e : s.fr[i]? with
  | none => exact (h.badB (by simp [ownM, e])).elim
  | some x =>
    cases x with
    | ow d sub =>
      by_cases q : f (tag d) = true
      · exact ⟨d, sub, rfl, q, h.okB (by simp [ownM, e, q])⟩
      · exact (h.badB (by simp [ownM, e, q])).elim
    | emp => exact (h.badB (by simp [ownM, e])).elim
    | fz d => exact (h.badB (by simp [ownM, e])).elim
theorem Go.ownB {i : Nat} {f : Nat → Bool} {k : Unit → M β} {A : β → Sta → Wd → Prop} (h : Go c W σ (ownM i f >>= k) w s A) : ∃ d sub, s.fr[i]? = some (.ow d sub) ∧ f (tag d) = true ∧ Go c W σ (k ()) w s A := by
  cases e : s.fr[i]? with
  | none => exact (h.badB (by simp [ownM, e])).elim
  | some x =>
    cases x with
    | ow d sub =>
      by_cases q : f (tag d) = true
      · exact ⟨d, sub, rfl, q, h.okB (by simp [ownM, e, q])⟩
      · exact (h.badB (by simp [ownM, e, q])).elim
    | emp => exact (h.badB (by simp [ownM, e])).elim
    | fz d => exact (h.badB (by simp [ownM, e])).elim
theorem key_rep {F : Addr → Prop} {H : Hp} {d : D} {v : V} {k : Key} (h : Rep c F H d v) (e : keyOf d = some k) : v = kV k := kV_rep h e
theorem keep2_go {r r2 : R} {v v2 : V} {k : D → D → M β} (y : Ext w0 w) (S : SR c w s.fr σ) (rr : RR c w0 w σ r v) (rr2 : RR c w0 w σ r2 v2) (h : GoS c W P (keepM r >>= fun d => keepM r2 >>= k d) w0 s A) :
    ∃ d d2 w', w'.H = w.H ∧ Ext w0 w' ∧ SR c w' s.fr σ ∧ Rep c w'.F w'.H d v ∧ Rep c w'.F w'.H d2 v2 ∧ GoS c W P (k d d2) w0 s A := by
  have h : GoS c W P (M.opt (keepR r) >>= fun d => M.opt (keepR r2) >>= k d) w0 s A := h
  obtain ⟨d, e, h⟩ := h.optB
  obtain ⟨d2, e2, h⟩ := h.optB
  obtain ⟨bs, b1, b2, b3⟩ := RRs.kept y S (.cons rr (.cons rr2 .nil)) (ds := [d, d2]) (by simp [keepAll, e, e2])
  cases b3 with
  | cons q1 q =>
    cases q with
    | cons q2 _ => exact ⟨d, d2, w.keep bs, rfl, y.keep b1, S.keep b2, q1, q2, h⟩
theorem ixN_len {α β : Type} {xs : List α} {ys : List β} (e : xs.length = ys.length) (i : Int) : ixN xs.length i = ixN ys.length i := by rw [e]
/-- o[k] = v on data, and on what it stands for -/
theorem putI_at {d d' kd vd : D} {sub : List Nat} {a : Addr} {bs : List Addr} {kv vv : V} {fr : List Slot} (S : SR c w fr σ) (nF : ¬ w.F a) (o : Own c w.F w.H d sub a bs) (rk : Rep c w.F w.H kd kv) (rv : Rep c w.F w.H vd vv) (e : putI kd vd d = some d') :
    ∃ o', Own c w.F (upd w.H a o') d' sub a bs ∧ ∀ Q : Hp → Prop, Q (upd w.H a o') → rSetA (.ref a) kv vv w.H Q := by
  cases o with
  | @lst a vs ds h r =>
    cases kd with
    | int z =>
      have e : (ixN ds.length z).map (fun j => D.lst (ds.set j vd)) = some d' := e
      rw [Option.map_eq_some_iff] at e
      obtain ⟨j, e1, rfl⟩ := e
      cases rk
      refine ⟨_, Own.upL (.lst h r) nF (r.set j rv), fun Q q => .inl ⟨a, vs, z, j, rfl, rfl, h, by rw [← r.length]; exact e1, q⟩⟩
    | _ => cases e
  | @dic a kvs ds h r =>
    have e : ((keyOf kd).bind fun k' => if ds.length < LIM then some (D.dic (dput ds k' vd)) else none) = some d' := e
    rw [Option.bind_eq_some_iff] at e
    obtain ⟨k, e1, e⟩ := e
    by_cases hl : ds.length < LIM
    · rw [if_pos hl] at e
      cases e
      have hk := kV_rep rk e1
      subst hk
      refine ⟨_, Own.upD (.dic h r) nF (r.put rv), fun Q q => .inr ⟨a, _, rfl, DPut.k h (by rw [← lim_eq, ← r.length]; exact hl), q⟩⟩
    · rw [if_neg hl] at e; cases e
  | ins _ _ => cases e
theorem s_setI {i : Nat} {k e : CE} {D : Ends} (h : tS c W P (evS g (.setI i k e)) D σ H) : tAsg (tE c W (evE g e)) (gSub (tVar i) (tE c W (evE g k)) rSetA) D σ H := by
  obtain ⟨p, w, s, rfl, S, h⟩ := h
  unfold evS at h
  show tE c W (evE g e) σ w.H (fun v H1 => ∃ x, σ[i]? = some (some x) ∧ tE c W (evE g k) σ H1 (fun y H2 => rSetA x y v H2 fun H3 => D.nx σ H3))
  refine tE.stm p S h fun r s1 w1 v x S1 R1 G1 => ?_
  obtain ⟨d0, sub0, e0, _, G1⟩ := G1.ownB
  obtain ⟨a, bs, _, _, ev, _⟩ := S1.rel.getO e0
  refine ⟨_, ev, ?_⟩
  refine tE.stm' p x S1 G1 fun r2 s2 w2 y x2 S2 R2 G2 => ?_
  obtain ⟨dv, dk, w3, h3, x3, S3, rv, rk, G3⟩ := keep2_go (x.trans x2) S2 (R1.step S1 x2) (R2.weak x) G2
  obtain ⟨d, sub, d', f1, f2, G4⟩ := updI_go G3
  obtain ⟨a', bs', ev', o, _, _, up⟩ := S3.updO f1
  rw [ev] at ev'
  cases ev'
  obtain ⟨o', on, fin'⟩ := putI_at S3 (S3.ownNF f1 ev).1 o rk rv f2
  obtain ⟨A', S4, x4⟩ := up d' o' on
  rw [← h3]
  refine fin' _ ?_
  exact GoS.of_ok G4 (a := Fl.nx) rfl (x3.trans x4) p S4
theorem s_subI {i : Nat} {k e : CE} {D : Ends} (h : tS c W P (evS g (.subI i k e)) D σ H) : sDAug (tVar i) (tE c W (evE g k)) (tE c W (evE g e)) rSub D σ H := by
  obtain ⟨p, w, s, rfl, S, h⟩ := h
  unfold evS at h
  obtain ⟨d0, sub0, e0, _, h⟩ := h.ownB
  obtain ⟨a, bs, _, _, ev, _⟩ := S.rel.getO e0
  show ∃ x, σ[i]? = some (some x) ∧ tE c W (evE g k) σ w.H (fun y H2 => ∃ a v, x = .ref a ∧ DGet H2 a y (some v) ∧ tE c W (evE g e) σ H2 fun y2 H3 => rSub v y2 H3 fun z H4 => ∃ H5, DPut H4 a y z H5 ∧ D.nx σ H5)
  refine ⟨_, ev, ?_⟩
  refine tE.stm p S h fun r s1 w1 y x S1 R1 G1 => ?_
  obtain ⟨dk, w2, h2, _, x2, S2, rk, G2, _⟩ := keep_go (Ext.refl w) x S1 R1 G1
  rw [← h2]
  cases e1 : s1.fr[i]? with
  | none => exact (G2.badB (by simp [dicInt, e1])).elim
  | some y0 =>
    cases y0 with
    | ow d sub =>
      cases e2 : intAt dk d with
      | none => exact (G2.badB (by simp [dicInt, e1, e2])).elim
      | some z =>
        have G3 := G2.okB (a := z) (s1 := s1) (by simp [dicInt, e1, e2])
        obtain ⟨nF, bs, o⟩ := S2.ownNF e1 ev
        cases o with
        | @dic _ vs ds hd rd =>
          have e2 : ((keyOf dk).bind (dget ds)).bind intOf = some z := e2
          rw [Option.bind_eq_some_iff] at e2
          obtain ⟨dz, k1, k2⟩ := e2
          rw [Option.bind_eq_some_iff] at k1
          obtain ⟨k0, k1, k3⟩ := k1
          have hk := kV_rep rk k1
          subst hk
          obtain ⟨v0, v1, v2⟩ := (rd.get (k := k0)).1 _ k3
          have ez : v0 = .int z := by
            cases dz <;> cases k2
            cases v2
            rfl
          subst ez
          refine ⟨a, .int z, rfl, by rw [← v1]; exact DGet.k hd, ?_⟩
          refine tE.stm' p x2 S2 G3 fun r3 s3 w3 u x3 S3 R3 G4 => ?_
          obtain ⟨z2, e3, G5⟩ := G4.optB
          rw [Option.bind_eq_some_iff] at e3
          obtain ⟨dy, e4, e5⟩ := e3
          obtain ⟨bs3, b1, b2, b3⟩ := R3.kept x3 S3 e4
          have eu : u = .int z2 := by
            cases dy <;> cases e5
            cases b3
            rfl
          subst eu
          refine ⟨z, z2, rfl, rfl, ?_⟩
          obtain ⟨d1, sub1, e6, t6, G5⟩ := G5.ownB
          obtain ⟨d5, sub5, d6, g1, g2, G6⟩ := updI_go G5
          rw [e6] at g1
          cases g1
          obtain ⟨es, rfl⟩ := tag_dic (by simpa using t6)
          obtain ⟨a5, bs5, ev5, o5, _, _, up⟩ := S3.updO e6
          rw [ev] at ev5
          cases ev5
          have nF3 := (S3.ownNF e6 ev).1
          have g2 : ((keyOf dk).bind fun k' => if es.length < LIM then some (Mi.D.dic (dput es k' (.int (z - z2)))) else none) = some d6 := g2
          rw [Option.bind_eq_some_iff] at g2
          obtain ⟨k5, k6, g2⟩ := g2
          rw [k1] at k6
          cases k6
          by_cases hl : es.length < LIM
          · rw [if_pos hl] at g2
            cases g2
            cases o5 with
            | @dic _ us _ h5 r5 =>
              obtain ⟨A', S4, x4⟩ := up _ _ (Own.upD (.dic h5 r5) nF3 (r5.put (k := k0) (.int (z - z2))))
              exact ⟨_, DPut.k h5 (by rw [← lim_eq, ← r5.length]; exact hl), GoS.of_ok G6 (a := Fl.nx) rfl ((x2.trans x3).trans x4) p S4⟩
          · rw [if_neg hl] at g2; cases g2
        | lst _ _ => cases e2
        | ins _ _ => cases e2
    | emp => exact (G2.badB (by simp [dicInt, e1])).elim
    | fz d => exact (G2.badB (by simp [dicInt, e1])).elim
theorem s_app {i : Nat} {e : CE} {D : Ends} (h : tS c W P (evS g (.app i e)) D σ H) : tDrop (tBM c.K "list" rAppend (tVar i) (tCons (tE c W (evE g e)) tNil)) D σ H := by
  obtain ⟨p, w, s, rfl, S, h⟩ := h
  unfold evS at h
  obtain ⟨d0, sub0, e0, t0, h⟩ := h.ownB
  obtain ⟨xs0, rfl⟩ := tag_lst (by simpa using t0)
  obtain ⟨a, bs, _, _, ev, o0, _⟩ := S.rel.getO e0
  cases o0 with
  | @lst _ vs0 _ h0 r0 =>
    show ∃ x, σ[i]? = some (some x) ∧ tyV c.K "list" x w.H ∧ tE c W (evE g e) σ w.H (fun y H1 => rAppend x [y] H1 fun _ H2 => D.nx σ H2)
    refine ⟨_, ev, .inl ⟨rfl, vs0, SqL.of h0⟩, ?_⟩
    refine tE.stm p S h fun r s1 w1 y x S1 R1 G1 => ?_
    obtain ⟨dk, w2, h2, _, x2, S2, rk, G2, _⟩ := keep_go (Ext.refl w) x S1 R1 G1
    obtain ⟨d, sub, d', f1, f2, G3⟩ := updI_go G2
    obtain ⟨nF, _⟩ := S2.ownNF f1 ev
    obtain ⟨a', bs', ev', o, _, _, up⟩ := S2.updO f1
    rw [ev] at ev'
    cases ev'
    cases o with
    | @lst _ vs ds hl r =>
      have f2 : (if ds.length < LIM then some (Mi.D.lst (ds ++ [dk])) else none) = some d' := f2
      by_cases hz : ds.length < LIM
      · rw [if_pos hz] at f2
        cases f2
        obtain ⟨A', S4, x4⟩ := up _ _ (Own.upL (.lst hl r) nF (r.append (.cons rk .nil)))
        rw [← h2]
        exact ⟨a, vs, y, rfl, rfl, hl, by rw [← lim_eq, ← r.length]; exact hz, GoS.of_ok G3 (a := Fl.nx) rfl (x2.trans x4) p S4⟩
      · rw [if_neg hz] at f2; cases f2
    | dic _ _ => cases f2
    | ins _ _ => cases f2
theorem t_pop {i : Nat} {e : CE} (h : tE c W (evE g (.pop i e)) σ H Q) : tBM c.K "list" rPopAt (tVar i) (tCons (tE c W (evE g e)) tNil) σ H Q := by
  obtain ⟨w, s, rfl, S, h⟩ := h
  unfold evE at h
  obtain ⟨d0, sub0, e0, t0, h⟩ := h.ownB
  obtain ⟨xs0, rfl⟩ := tag_lst (by simpa using t0)
  obtain ⟨a, bs, _, _, ev, o0, _⟩ := S.rel.getO e0
  cases o0 with
  | @lst _ vs0 _ h0 r0 =>
    show ∃ x, σ[i]? = some (some x) ∧ tyV c.K "list" x w.H ∧ tE c W (evE g e) σ w.H (fun y H1 => rPopAt x [y] H1 Q)
    refine ⟨_, ev, .inl ⟨rfl, vs0, SqL.of h0⟩, ?_⟩
    refine tE.bind S h fun r s1 w1 y x S1 R1 G1 => ?_
    obtain ⟨k, e1, G2⟩ := G1.optB
    rw [Option.bind_eq_some_iff] at e1
    obtain ⟨dk, e4, e5⟩ := e1
    obtain ⟨bs3, b1, b2, b3⟩ := R1.kept x S1 e4
    have eu : y = .int k := by
      cases dk <;> cases e5
      cases b3
      rfl
    subst eu
    cases e2 : s1.fr[i]? with
    | none => exact (G2.of_bad (by simp [popM, e2])).elim
    | some y0 =>
      cases y0 with
      | ow d sub =>
        cases e3 : popL k d with
        | none => exact (G2.of_bad (by simp [popM, e2, e3])).elim
        | some q =>
          obtain ⟨xd, d'⟩ := q
          obtain ⟨a', bs', ev', o, _, _, up⟩ := S1.updO e2
          rw [ev] at ev'
          cases ev'
          have nF := (S1.ownNF e2 ev).1
          cases o with
          | @lst _ vs ds hl r =>
            have e3' : (if ranOk k = true then (ixN ds.length k).bind fun n => (ds[n]?).map fun x => (x, D.lst (ds.eraseIdx n)) else none) = some (xd, d') := e3
            by_cases hr : ranOk k = true
            · rw [if_pos hr, Option.bind_eq_some_iff] at e3'
              obtain ⟨n, f1, f2⟩ := e3'
              rw [Option.map_eq_some_iff] at f2
              obtain ⟨x0, f2, f3⟩ := f2
              cases f3
              obtain ⟨u, u1, u2⟩ := r.get f2
              obtain ⟨i1, i2, i3, i4⟩ := ixN_seq f1
              have hr : -(2 ^ 62) ≤ k ∧ k < 2 ^ 62 := by simpa [ranOk] using hr
              obtain ⟨A', S4, x4⟩ := up _ _ (Own.upL (.lst hl r) nF (r.erase n))
              refine ⟨a, vs, k, n, u, rfl, rfl, hl, by omega, by omega, by rw [← r.length]; exact i1, u1, ?_⟩
              exact Go.of_ok G2 (a := R.fz xd) (s1 := { s1 with fr := s1.fr.set i (.ow (.lst (ds.eraseIdx n)) []) }) (by simp [popM, e2, e3]) (x.trans x4) S4 u (S1.rep x4 u2)
            · rw [if_neg hr] at e3'; cases e3'
          | dic _ _ => cases e3
          | ins _ _ => cases e3
      | emp => exact (G2.of_bad (by simp [popM, e2])).elim
      | fz d => exact (G2.of_bad (by simp [popM, e2])).elim
theorem putF_skip {f n : Str} {v v0 : V} {fs : List (Str × V)} (h : n ≠ f) : putF f v ((n, v0) :: fs) = (n, v0) :: putF f v fs := by
  show (if n = f then _ else _) = _
  rw [if_neg h]
theorem putF_hit {f : Str} {v v0 : V} {fs : List (Str × V)} : putF f v ((f, v0) :: fs) = (f, v) :: fs := by
  show (if f = f then _ else _) = _
  rw [if_pos rfl]
theorem OwnF.put {F : Addr → Prop} {H : Hp} {ns : List Str} {ds : List Mi.D} {fs : List (Str × V)} {i : Nat} {sub : List Nat} {bs : List Addr} (r : OwnF c F H ns ds fs i sub bs) : ∀ {k : Nat} {f : Str} {d : Mi.D} {v : V}, ns.Nodup → i + k ∉ sub → ns[k]? = some f → Rep c F H d v → k ≤ ds.length →
    OwnF c F H ns (if k < ds.length then ds.set k d else ds ++ [d]) (putF f v fs) i sub bs := by
  induction r with
  | @nil ns i sub =>
    intro k f d v nd ns' e rd l
    have k0 : k = 0 := by simpa using l
    subst k0
    cases ns with
    | nil => simp at e
    | cons n ns =>
      simp at e
      subst e
      exact .fz ns' rd .nil
  | @fz n ns d0 v0 ds vs i sub bs o h r ih =>
    intro k f d v nd nsb e rd l
    obtain ⟨n1, n2⟩ := List.nodup_cons.mp nd
    cases k with
    | zero =>
      simp at e
      subst e
      rw [putF_hit, if_pos (by simp)]
      exact .fz o rd r
    | succ k =>
      have e : ns[k]? = some f := by simpa using e
      rw [putF_skip (fun z => n1 (by rw [z]; exact List.mem_of_getElem? e))]
      have z := ih (k := k) n2 (by rw [Nat.add_assoc, Nat.add_comm 1]; exact nsb) e rd (by simpa using l)
      by_cases q : k < ds.length
      · rw [if_pos q] at z
        rw [if_pos (by simpa using q)]
        exact .fz o h z
      · rw [if_neg q] at z
        rw [if_neg (by simpa using q)]
        exact .fz o h z
  | @ow n ns b es us ds vs i sub bs o h q r ih =>
    intro k f d v nd nsb e rd l
    obtain ⟨n1, n2⟩ := List.nodup_cons.mp nd
    cases k with
    | zero => exact absurd o nsb
    | succ k =>
      have e : ns[k]? = some f := by simpa using e
      rw [putF_skip (fun z => n1 (by rw [z]; exact List.mem_of_getElem? e))]
      have z := ih (k := k) n2 (by rw [Nat.add_assoc, Nat.add_comm 1]; exact nsb) e rd (by simpa using l)
      by_cases q2 : k < ds.length
      · rw [if_pos q2] at z
        rw [if_pos (by simpa using q2)]
        exact .ow o h q z
      · rw [if_neg q2] at z
        rw [if_neg (by simpa using q2)]
        exact .ow o h q z
theorem OwnF.len {F : Addr → Prop} {H : Hp} {ns : List Str} {ds : List Mi.D} {fs : List (Str × V)} {i : Nat} {sub : List Nat} {bs : List Addr} (r : OwnF c F H ns ds fs i sub bs) : ds.length = fs.length := by
  induction r with
  | nil => rfl
  | fz _ _ _ ih => exact congrArg (· + 1) ih
  | ow _ _ _ _ ih => exact congrArg (· + 1) ih
theorem OwnF.le {F : Addr → Prop} {H : Hp} {ns : List Str} {ds : List Mi.D} {fs : List (Str × V)} {i : Nat} {sub : List Nat} {bs : List Addr} (r : OwnF c F H ns ds fs i sub bs) : ds.length ≤ ns.length := by
  induction r with
  | nil => exact Nat.zero_le _
  | fz _ _ _ ih => exact Nat.succ_le_succ ih
  | ow _ _ _ _ ih => exact Nat.succ_le_succ ih
theorem GoS.subB {i k : Nat} {m : Unit → M β} (h : GoS c W P (subM i k >>= m) w s A) : ∃ d sub, s.fr[i]? = some (.ow d sub) ∧ k ∉ sub ∧ GoS c W P (m ()) w s A := by
  cases e : s.fr[i]? with
  | none => exact (h.badB (by simp [subM, e])).elim
  | some x =>
    cases x with
    | ow d sub =>
      by_cases q : k ∈ sub
      · exact (h.badB (by simp [subM, e, q])).elim
      · exact ⟨d, sub, rfl, q, h.okB (by simp [subM, e, q])⟩
    | emp => exact (h.badB (by simp [subM, e])).elim
    | fz d => exact (h.badB (by simp [subM, e])).elim
theorem s_setF {i cc k : Nat} {f : Str} {e : CE} {D : Ends} (nd : (c.fl cc).Nodup) (hl : (c.fl cc).length < 1000) (hf : (c.fl cc)[k]? = some f) (hC : Cls c.K (c.C cc)) (hN : NoAttr c.K (c.C cc) f) (h : tS c W P (evS g (.setF i cc k e)) D σ H) :
    sFld c.K (tVar i) (tE c W (evE g e)) f D σ H := by
  obtain ⟨p, w, s, rfl, S, h⟩ := h
  unfold evS at h
  refine tE.stm p S h fun r s1 w1 v x S1 R1 G1 => ?_
  obtain ⟨d, w2, h2, _, x2, S2, rd, G2, _⟩ := keep_go (Ext.refl w) x S1 R1 G1
  obtain ⟨d0, sub, e0, ns, G3⟩ := G2.subB
  obtain ⟨d0', sub', d', e1, e2, G4⟩ := updI_go G3
  rw [e0] at e1
  cases e1
  obtain ⟨a, bs, ev, o, nda, nFa, up⟩ := S2.updO e0
  rw [← h2]
  cases o with
  | lst _ _ => cases e2
  | dic _ _ => cases e2
  | @ins _ dx k0 fs ds _ _ hh r =>
    have e2 : (if k0 = cc then (if k < ds.length then some (Mi.D.ins cc (ds.set k d)) else if k = ds.length then some (Mi.D.ins cc (ds ++ [d])) else none) else none) = some d' := e2
    by_cases ec : k0 = cc
    · rw [if_pos ec] at e2
      subst ec
      have nF : ¬ w2.F a := nFa a List.mem_cons_self
      have nab : ∀ b ∈ bs, b ≠ a := fun b m z => (List.nodup_cons.mp nda).1 (by rw [← z]; exact m)
      have kl : k ≤ ds.length := by
        by_cases q : k < ds.length
        · exact Nat.le_of_lt q
        · rw [if_neg q] at e2
          by_cases q2 : k = ds.length
          · exact Nat.le_of_eq q2
          · rw [if_neg q2] at e2; cases e2
      have ed : d' = .ins k0 (if k < ds.length then ds.set k d else ds ++ [d]) := by
        by_cases q : k < ds.length
        · rw [if_pos q] at e2 ⊢
          cases e2; rfl
        · rw [if_neg q] at e2 ⊢
          by_cases q2 : k = ds.length
          · rw [if_pos q2] at e2; cases e2; rfl
          · rw [if_neg q2] at e2; cases e2
      have r' := (r.put nd (by rw [Nat.zero_add]; exact ns) hf rd kl).mono (F' := w2.F) (H' := upd w2.H a (.ins (c.C k0) dx (putF f v fs))) (fun _ h => h) (fun b o fb e => by rw [upd_ne (fun z => nF (by rw [← z]; exact fb))]; exact e) fun b o m e => by rw [upd_ne (nab b m)]; exact e
      obtain ⟨A', S4, x4⟩ := up d' _ (by rw [ed]; exact .ins upd_same r')
      refine ⟨_, ev, a, c.C k0, dx, fs, rfl, hh, hC, hN, ?_, GoS.of_ok G4 (a := Fl.nx) rfl (x2.trans x4) p S4⟩
      rw [← r.len]
      exact Nat.lt_of_le_of_lt r.le hl
    · rw [if_neg ec] at e2; cases e2
end
end Mi

set_option Elab.async false
set_option linter.all false
set_option maxRecDepth 100000
set_option maxHeartbeats 2000000
/-! Mi: what is walked; targets; for; comprehensions. -/
namespace Mi
open PySem L2
/-- the walk J hands out ds; pr: as new pairs -/
structure ItOk (c : Cn) (J : It) (ds : List D) (pr : Bool) (Cond : Wd → Prop) : Prop where
  perF : ∀ (w w' : Wd), Cond w → (∀ a, w.F a → w'.F a) → (∀ a o, w.F a → w.H a = some o → w'.H a = some o) → Cond w'
  go : ∀ (w : Wd) (i : Nat), Cond w → i < ds.length → J.go i w.H
  stop : ∀ (w : Wd), Cond w → J.stop ds.length w.H
  yld : ∀ (w : Wd) (i : Nat) (x : V) (H' : Hp) (d : D) (fr : List Slot) (σ : St), Cond w → SR c w fr σ → ds[i]? = some d → J.yld i w.H x H' →
    if pr = true then ∃ T a b da db, d = .tup [da, db] ∧ x = .ref T ∧ w.H T = none ∧ H' = upd w.H T (.tup [a, b]) ∧ Rep c w.F w.H da a ∧ Rep c w.F w.H db b
    else ∃ w', Grow w w' ∧ w'.H = H' ∧ Rep c w'.F w'.H d x
theorem ItOk.per {c : Cn} {J : It} {ds : List D} {pr : Bool} {Cond : Wd → Prop} (K : ItOk c J ds pr Cond) (w w' : Wd) (fr : List Slot) (σ : St) (cd : Cond w) (S : SR c w fr σ) (x : Ext w w') : Cond w' := K.perF w w' cd x.f (S.fH x)
def gNms : List Nat → TGs
  | [] => gNil
  | i :: is => gCons (gName i) (gNms is)
def gT (K : PySem.W.Frag) : Tg → TG
  | .nm i => gName i
  | .tn is => gTup K is.length (gNms is)
  | .t2 a b => gTup K 2 (gCons (gT K a) (gCons (gT K b) gNil))
def tgIx : Tg → List Nat
  | .nm i => [i]
  | .tn is => is
  | .t2 a b => tgIx a ++ tgIx b
def pairTg : Tg → Bool
  | .nm _ => false
  | .tn is => is.length == 2
  | .t2 _ _ => true
section
variable {c : Cn} {W : XW} {P : St → Prop} {g : G} {σ : St} {H : Hp} {Q : VK} {α β : Type} {w w0 w1 : Wd} {s s1 : Sta} {A : β → Sta → Wd → St → Prop}
/-- what has been stored: the rest stands -/
def Same (is : List Nat) (σ σ' : St) : Prop := σ'.length = σ.length ∧ ∀ j, j ∉ is → σ'[j]? = σ[j]?
theorem Same.refl (is : List Nat) (σ : St) : Same is σ σ := ⟨rfl, fun _ _ => rfl⟩
theorem Same.trans {is js : List Nat} {σ σ1 σ2 : St} (a : Same is σ σ1) (b : Same js σ1 σ2) : Same (is ++ js) σ σ2 := ⟨b.1.trans a.1, fun j n => by
  rw [b.2 j (fun z => n (List.mem_append_right _ z)), a.2 j (fun z => n (List.mem_append_left _ z))]⟩
theorem GoS.assoc {γ : Type} {m : M α} {k : α → M γ} {l : γ → M β} (h : GoS c W P ((m >>= k) >>= l) w s A) : GoS c W P (m >>= fun a => k a >>= l) w s A := h.eqM (by
  show M.bind (M.bind m k) l s = M.bind m (fun a => M.bind (k a) l) s
  unfold M.bind
  cases m s <;> rfl)
theorem nms_go : ∀ {is : List Nat} {ds : List D} {vs : List V} {σ : St} {w : Wd} {s : Sta} {k : Unit → M β} {Q : St → Hp → Prop}, Ext w0 w → SR c w s.fr σ → Reps c w.F w.H ds vs → GoS c W P (asgAll is ds >>= k) w0 s A →
    (∀ s' w' σ', w'.H = w.H → Ext w0 w' → Ext w w' → SR c w' s'.fr σ' → Same is σ σ' → GoS c W P (k ()) w0 s' A → Q σ' w'.H) → gNms is vs σ w.H Q
  | [], ds, vs, σ, w, s, k, Q, x, S, r, h, q => by
    cases r with
    | nil => exact ⟨rfl, q s w σ rfl x (Ext.refl w) S (Same.refl _ _) (h.okB rfl)⟩
    | cons _ _ => exact (h.badB rfl).elim
  | i :: is, ds, vs, σ, w, s, k, Q, x, S, r, h, q => by
    cases r with
    | nil => exact (h.badB rfl).elim
    | @cons d v ds vs hd r =>
      have h : GoS c W P (setS i (.fz d) >>= fun _ => asgAll is ds >>= k) w0 s A := GoS.assoc h
      obtain ⟨l, h⟩ := h.setB
      obtain ⟨A', S', x', sub⟩ := S.setF l hd
      refine ⟨v, vs, rfl, ?_⟩
      refine nms_go (is := is) (w := ⟨w.F, w.H, A'⟩) (x.trans x') S' r h fun s2 w2 σ2 e2 y y2 S2 sm G => ?_
      have sm1 : Same [i] σ (σ.set i (some v)) := ⟨List.length_set, fun j n => List.getElem?_set_ne (fun z => n (by rw [z]; exact List.mem_cons_self))⟩
      have z := q s2 w2 σ2 e2 y (x'.trans y2) S2 (sm1.trans sm) G
      exact z
theorem tg_go : ∀ {tg : Tg} {d : D} {x : V} {σ : St} {w : Wd} {s : Sta} {k : Unit → M β} {Q : St → Hp → Prop}, Ext w0 w → SR c w s.fr σ → Rep c w.F w.H d x → GoS c W P (asgTg tg d >>= k) w0 s A →
    (∀ s' w' σ', w'.H = w.H → Ext w0 w' → Ext w w' → SR c w' s'.fr σ' → Same (tgIx tg) σ σ' → GoS c W P (k ()) w0 s' A → Q σ' w'.H) → gT c.K tg x σ w.H Q
  | .nm i, d, x, σ, w, s, k, Q, y, S, r, h, q => by
    have h : GoS c W P (setS i (.fz d) >>= k) w0 s A := h
    obtain ⟨l, h⟩ := h.setB
    obtain ⟨A', S', x', sub⟩ := S.setF l r
    exact q _ ⟨w.F, w.H, A'⟩ _ rfl (y.trans x') x' S' ⟨List.length_set, fun j n => List.getElem?_set_ne (fun z => n (by rw [z]; exact List.mem_cons_self))⟩ h
  | .tn is, d, x, σ, w, s, k, Q, y, S, r, h, q => by
    cases r with
    | @tup a o vs ds f hh n r =>
      refine ⟨a, vs, rfl, sqT hh, ?_, nms_go y S r h q⟩
      have : ∀ {is : List Nat} {ds : List D} {s : Sta} {k : Unit → M β}, GoS c W P (asgAll is ds >>= k) w0 s A → ds.length = is.length := by
        intro is
        induction is with
        | nil => intro ds s k h; cases ds with
          | nil => rfl
          | cons _ _ => exact (h.badB rfl).elim
        | cons i is ih =>
          intro ds s k h
          cases ds with
          | nil => exact (h.badB rfl).elim
          | cons d ds =>
            have h : GoS c W P (setS i (.fz d) >>= fun _ => asgAll is ds >>= k) w0 s A := GoS.assoc h
            obtain ⟨_, h⟩ := h.setB
            exact congrArg (· + 1) (ih h)
      rw [← r.length]
      exact this h
    | _ => exact (h.badB rfl).elim
  | .t2 a b, d, x, σ, w, s, k, Q, y, S, r, h, q => by
    cases r with
    | @tup p o vs ds f hh n r =>
      match ds, r, h with
      | [d1, d2], .cons (v := v1) r1 (.cons (v := v2) r2 .nil), h =>
        have h : GoS c W P (asgTg a d1 >>= fun _ => asgTg b d2 >>= k) w0 s A := GoS.assoc h
        refine ⟨p, [v1, v2], rfl, sqT hh, rfl, v1, [v2], rfl, ?_⟩
        refine tg_go (tg := a) y S r1 h fun s1 w1 σ1 e1 y1 z1 S1 sm1 G1 => ?_
        refine ⟨v2, [], rfl, ?_⟩
        refine tg_go (tg := b) y1 S1 (S.rep z1 r2) G1 fun s2 w2 σ2 e2 y2 z2 S2 sm2 G2 => ?_
        exact ⟨rfl, q s2 w2 σ2 (e2.trans e1) y2 (z1.trans z2) S2 (sm1.trans sm2) G2⟩
      | [], _, h => exact (h.badB rfl).elim
      | [_], _, h => exact (h.badB rfl).elim
      | _ :: _ :: _ :: _, _, h => exact (h.badB rfl).elim
    | _ => exact (h.badB (by cases a <;> rfl)).elim
/-- a new pair is taken apart -/
theorem pr_go {tg : Tg} {T : Addr} {a b : V} {da db : D} {k : Unit → M β} {Q : St → Hp → Prop} (hp : pairTg tg = true) (y : Ext w0 w) (S : SR c w s.fr σ) (hT : w.H T = none) (ra : Rep c w.F w.H da a) (rb : Rep c w.F w.H db b) (h : GoS c W P (asgTg tg (.tup [da, db]) >>= k) w0 s A)
    (q : ∀ s' w' σ', w'.H = upd w.H T (.tup [a, b]) → Ext w0 w' → Ext w w' → SR c w' s'.fr σ' → Same (tgIx tg) σ σ' → GoS c W P (k ()) w0 s' A → Q σ' w'.H) : gT c.K tg (.ref T) σ (upd w.H T (.tup [a, b])) Q := by
  have gr : Grow w (w.new T (.tup [a, b])) := Grow.new S hT
  have S' := gr.sr S
  have ra' := gr.rep ra
  have rb' := gr.rep rb
  cases tg with
  | nm i => cases hp
  | tn is =>
    have hl : is.length = 2 := by simpa [pairTg] using hp
    refine ⟨T, [a, b], rfl, SqT.of upd_same, hl.symm, ?_⟩
    exact nms_go (w := w.new T (.tup [a, b])) (y.trans gr.ext) S' (.cons ra' (.cons rb' .nil)) h fun s' w' σ' e y1 y2 S1 sm G => q s' w' σ' e y1 (gr.ext.trans y2) S1 sm G
  | t2 t1 t2 =>
    have h : GoS c W P (asgTg t1 da >>= fun _ => asgTg t2 db >>= k) w0 s A := GoS.assoc h
    refine ⟨T, [a, b], rfl, SqT.of upd_same, rfl, a, [b], rfl, ?_⟩
    refine tg_go (tg := t1) (w := w.new T (.tup [a, b])) (y.trans gr.ext) S' ra' h fun s1 w1 σ1 e1 y1 z1 S1 sm1 G1 => ?_
    refine ⟨b, [], rfl, ?_⟩
    refine tg_go (tg := t2) y1 S1 (S'.rep z1 rb') G1 fun s2 w2 σ2 e2 y2 z2 S2 sm2 G2 => ?_
    exact ⟨rfl, q s2 w2 σ2 (e2.trans e1) y2 (gr.ext.trans (z1.trans z2)) S2 (sm1.trans sm2) G2⟩
/-- one turn's target -/
theorem it_go {J : It} {ds : List D} {pr : Bool} {Cond : Wd → Prop} {tg : Tg} {i : Nat} {d : D} {x : V} {H' : Hp} {k : Unit → M β} {Q : St → Hp → Prop} (K : ItOk c J ds pr Cond) (hp : pr = true → pairTg tg = true) (y : Ext w0 w) (cd : Cond w) (S : SR c w s.fr σ) (e : ds[i]? = some d)
    (hy : J.yld i w.H x H') (h : GoS c W P (asgTg tg d >>= k) w0 s A)
    (q : ∀ s' w' σ', Ext w0 w' → Ext w w' → SR c w' s'.fr σ' → Same (tgIx tg) σ σ' → GoS c W P (k ()) w0 s' A → Q σ' w'.H) : gT c.K tg x σ H' Q := by
  have z := K.yld w i x H' d s.fr σ cd S e hy
  cases pr with
  | true =>
    rw [if_pos rfl] at z
    obtain ⟨T, a, b, da, db, rfl, rfl, hT, rfl, ra, rb⟩ := z
    exact pr_go (hp rfl) y S hT ra rb h fun s' w' σ' _ y1 y2 S1 sm G => q s' w' σ' y1 y2 S1 sm G
  | false =>
    rw [if_neg Bool.false_ne_true] at z
    obtain ⟨w', gr, eH, r⟩ := z
    subst eH
    exact tg_go (y.trans gr.ext) (gr.sr S) r h fun s2 w2 σ2 _ y1 y2 S1 sm G => q s2 w2 σ2 y1 (gr.ext.trans y2) S1 sm G
end
end Mi

set_option Elab.async false
set_option linter.all false
set_option maxRecDepth 100000
set_option maxHeartbeats 2000000
/-! Mi: loops and comprehensions. -/
namespace Mi
open PySem L2
section
variable {c : Cn} {W : XW} {P : St → Prop} {g : G} {σ : St} {H : Hp} {Q : VK} {α β : Type} {w w0 w1 : Wd} {s s1 : Sta} {A : β → Sta → Wd → St → Prop}
/-- what a source gives -/
def tI (m : M (List D)) (pr : Bool) : TI := fun σ H R => ∃ w s, w.H = H ∧ SR c w s.fr σ ∧ Go c W σ m w s fun ds s' _ => ∀ (w1 w2 : Wd) (J : It) (Cond : Wd → Prop), Ext w w2 → SR c w2 s'.fr σ → ItOk c J ds pr Cond → Cond w2 → R J w2.H
theorem s_for {tg : Tg} {src : CI} {b : CB} {pr : Bool} {D : Ends} (hp : pr = true → pairTg tg = true) (hP : ∀ σ σ', Same (tgIx tg) σ σ' → P σ → P σ') (h : tS c W P (evS g (.forS tg src b)) D σ H) :
    tFor (tI (c := c) (W := W) (evI g src) pr) (gT c.K tg) (tS c W P (evB g b)) D σ H := by
  obtain ⟨p, w, s, rfl, S, h⟩ := h
  unfold evS at h
  refine ⟨w, s, rfl, S, (h.exp p).imp fun ds s1 wx x1 S1 G1 => fun _ w1 J Cond x S1 K cd => ?_⟩
  refine ⟨fun i m σ' H' => m = ds.length - i ∧ i ≤ ds.length ∧ P σ' ∧ ∃ w' s', w'.H = H' ∧ Ext w w' ∧ SR c w' s'.fr σ' ∧ Cond w' ∧ GoS c W P (forL (fun d => do asgTg tg d; evB g b) (ds.drop i)) w s' (fin c D w), ⟨_, rfl, Nat.zero_le _, p, w1, s1, rfl, x, S1, cd, G1⟩, ?_⟩
  rintro i m σ' H' ⟨rfl, hi, p', w', s', rfl, x', S', cd', G⟩
  by_cases hlt : i < ds.length
  · refine .inr ⟨K.go w' i cd' hlt, fun σ2 H2 => i + 1 ≤ ds.length ∧ P σ2 ∧ ∃ w2 s2, w2.H = H2 ∧ Ext w w2 ∧ SR c w2 s2.fr σ2 ∧ Cond w2 ∧ GoS c W P (forL (fun d => do asgTg tg d; evB g b) (ds.drop (i + 1))) w s2 (fin c D w), ?_, ?_⟩
    · rintro σ2 H2 ⟨l, r⟩
      exact ⟨ds.length - (i + 1), by omega, rfl, l, r⟩
    · intro v H2 hy
      have e1 : ds.drop i = ds[i] :: ds.drop (i + 1) := List.drop_eq_getElem_cons hlt
      rw [e1] at G
      have G : GoS c W P ((asgTg tg ds[i] >>= fun _ => evB g b) >>= fun f => match f with
        | .nx => forL (fun d => do asgTg tg d; evB g b) (ds.drop (i + 1))
        | .cnt => forL (fun d => do asgTg tg d; evB g b) (ds.drop (i + 1))
        | .brk => pure .nx
        | .ret r => pure (.ret r)) w s' (fin c D w) := G
      have G := G.assoc
      refine it_go K hp x' cd' S' (List.getElem?_eq_getElem hlt) hy G fun s2 w2 σ2 y1 y2 S2 sm G2 => ?_
      refine ⟨hP _ _ sm p', w2, s2, rfl, S2, (G2.bind.up y1).imp fun f s3 w3 σ3 z p3 S3 G3 => ?_⟩
      have cd3 : Cond w3 := K.per w' w3 _ _ cd' S' (y2.trans z)
      cases f with
      | nx => exact ⟨hlt, p3, w3, s3, rfl, y1.trans z, S3, cd3, G3⟩
      | cnt => exact ⟨hlt, p3, w3, s3, rfl, y1.trans z, S3, cd3, G3⟩
      | brk => exact GoS.of_ok (W := W) G3 (a := Fl.nx) rfl (y1.trans z) p3 S3
      | ret r =>
        have q := GoS.of_ok (W := W) G3 (a := Fl.ret r) rfl (y1.trans z) p3 S3
        exact fun u rr => q u (rr.weak y1)
  · have e : i = ds.length := by omega
    subst e
    rw [List.drop_length] at G
    exact .inl ⟨K.stop w' cd', GoS.of_ok (W := W) G (a := Fl.nx) rfl x' p' S'⟩
theorem s_while {t : CT} {b : CB} {D : Ends} (h : tS c W P (evS g (.whil t b)) D σ H) : tWhile (tT c W (evT g t)) (tS c W P (evB g b)) D σ H := by
  obtain ⟨p, w, s, rfl, S, h⟩ := h
  unfold evS at h
  refine ⟨fun m σ' H' => P σ' ∧ ∃ w' s', w'.H = H' ∧ Ext w w' ∧ SR c w' s'.fr σ' ∧ GoS c W P (whL (evT g t) (evB g b) m) w s' (fin c D w), ⟨g.wf, p, w, s, rfl, Ext.refl w, S, h⟩, ?_⟩
  rintro m σ' H' ⟨p', w', s', rfl, x', S', G⟩
  cases m with
  | zero => exact (G.of_bad rfl).elim
  | succ m =>
    unfold whL at G
    refine tT.stm' p' x' S' G fun k s1 w1 x1 S1 G1 => ?_
    cases k with
    | false =>
      rw [if_neg Bool.false_ne_true]
      exact GoS.of_ok (W := W) G1 (a := Fl.nx) rfl (x'.trans x1) p' S1
    | true =>
      rw [if_pos rfl]
      refine ⟨fun σ2 H2 => P σ2 ∧ ∃ w2 s2, w2.H = H2 ∧ Ext w w2 ∧ SR c w2 s2.fr σ2 ∧ GoS c W P (whL (evT g t) (evB g b) m) w s2 (fin c D w), fun σ2 H2 q => ⟨m, Nat.lt_succ_self m, q⟩, ?_⟩
      refine ⟨p', w1, s1, rfl, S1, (G1.bind.up (x'.trans x1)).imp fun f s3 w3 σ3 z p3 S3 G3 => ?_⟩
      cases f with
      | nx => exact ⟨p3, w3, s3, rfl, (x'.trans x1).trans z, S3, G3⟩
      | cnt => exact ⟨p3, w3, s3, rfl, (x'.trans x1).trans z, S3, G3⟩
      | brk => exact GoS.of_ok (W := W) G3 (a := Fl.nx) rfl ((x'.trans x1).trans z) p3 S3
      | ret r =>
        have q := GoS.of_ok (W := W) G3 (a := Fl.ret r) rfl ((x'.trans x1).trans z) p3 S3
        exact fun u rr => q u (rr.weak (x'.trans x1))
theorem s_asgT {tg : Tg} {e : CE} {D : Ends} (hP : ∀ σ σ', Same (tgIx tg) σ σ' → P σ → P σ') (h : tS c W P (evS g (.asgT tg e)) D σ H) : tAsg (tE c W (evE g e)) (gT c.K tg) D σ H := by
  obtain ⟨p, w, s, rfl, S, h⟩ := h
  unfold evS at h
  refine tE.stm p S h fun r s1 w1 v x S1 R1 G1 => ?_
  obtain ⟨d, w2, h2, _, x2, S2, rd, G2, _⟩ := keep_go (Ext.refl w) x S1 R1 G1
  rw [← h2]
  exact tg_go x2 S2 rd G2 fun s' w' σ' _ y1 y2 S' sm G => GoS.of_ok G (a := Fl.nx) rfl y1 (hP _ _ sm p) S'
end
end Mi

set_option Elab.async false
set_option linter.all false
set_option maxRecDepth 100000
set_option maxHeartbeats 2000000
/-! Mi: what is walked. -/
namespace Mi
open PySem L2
section
variable {c : Cn} {W : XW} {g : G} {σ : St} {H : Hp} {α β : Type} {w w0 w1 : Wd} {s s1 : Sta} {X : Cx} {tg e : Expr}
theorem _root_.L2.PI.or {wi wi' : TI} (h : PI X tg e wi) (h' : PI X tg e wi') : PI X tg e (fun σ H R => wi σ H R ∨ wi' σ H R) := ⟨fun pins s σ H R I q => q.elim (h.run pins s σ H R I) (h'.run pins s σ H R I)⟩
theorem _root_.L2.PI.imp {wi wi' : TI} (h : PI X tg e wi) (i : ∀ σ H R, wi' σ H R → wi σ H R) : PI X tg e wi' := ⟨fun pins s σ H R I q => h.run pins s σ H R I (i _ _ _ q)⟩
theorem _root_.L2.PE.or {t t' : TE} (h : PE X e t) (h' : PE X e t') : PE X e (fun σ H Q => t σ H Q ∨ t' σ H Q) := ⟨fun pins s σ H Q I q => q.elim (h.run pins s σ H Q I) (h'.run pins s σ H Q I)⟩
theorem Go.eqs {m : M α} {A : α → Sta → Wd → Prop} (h : Go c W σ m w s A) : Go c W σ m w s fun a s1 w1 => m s = .ok a s1 ∧ A a s1 w1 := by
  unfold Go at h ⊢
  cases q : m s with
  | bad => rw [q] at h; exact h.elim
  | exc k vs s' => rw [q] at h; exact h
  | ok a s' => rw [q] at h; exact fun w' x S => ⟨rfl, h w' x S⟩
/-- a list that is read -/
theorem it_list {a : Addr} {ds : List D} {d : D} (hd : ∀ (F : Addr → Prop) (H : Hp), Rep c F H d (.ref a) → ∃ vs, SqL c.K H a vs ∧ Reps c F H ds vs) : ItOk c (Itl c.K a) ds false (fun w => Rep c w.F w.H d (.ref a)) where
  perF := fun w w' h f hH => h.mono f hH
  go := fun w i h l => by
    obtain ⟨vs, hv, r⟩ := hd _ _ h
    obtain ⟨v, e, _⟩ := r.get (List.getElem?_eq_getElem l)
    exact ⟨vs, v, hv, e⟩
  stop := fun w h => by
    obtain ⟨vs, hv, r⟩ := hd _ _ h
    exact ⟨vs, hv, Nat.le_of_eq r.length.symm⟩
  yld := fun w i x H' d' fr σ h S e y => by
    obtain ⟨vs, hv, r⟩ := hd _ _ h
    obtain ⟨v, e2, rv⟩ := r.get e
    obtain ⟨e3, all⟩ := y
    rw [all vs hv] at e2
    cases e2
    exact ⟨w, Grow.refl S, e3.symm, rv⟩
theorem it_tup {a : Addr} {ds : List D} : ItOk c (Itt c.K a) ds false (fun w => Rep c w.F w.H (.tup ds) (.ref a)) where
  perF := fun w w' h f hH => h.mono f hH
  go := fun w i h l => by
    cases h with
    | tup _ hh _ r =>
      obtain ⟨v, e, _⟩ := r.get (List.getElem?_eq_getElem l)
      exact ⟨_, v, sqT hh, e⟩
  stop := fun w h => by
    cases h with
    | tup _ hh _ r => exact ⟨_, sqT hh, Nat.le_of_eq r.length.symm⟩
  yld := fun w i x H' d' fr σ h S e y => by
    cases h with
    | tup _ hh _ r =>
      obtain ⟨v, e2, rv⟩ := r.get e
      obtain ⟨e3, all⟩ := y
      rw [all _ (sqT hh)] at e2
      cases e2
      exact ⟨w, Grow.refl S, e3.symm, rv⟩
theorem it_str {x : Str} : ItOk c (Its x) (x.cps.toList.map fun k => .str ⟨#[k]⟩) false (fun _ => True) where
  perF := fun _ _ _ _ _ => trivial
  go := fun w i _ l => by
    show i < x.cps.size
    simpa using l
  stop := fun w _ => by
    show x.cps.size ≤ _
    simp
  yld := fun w i v H' d fr σ _ S e y => by
    obtain ⟨e1, k, e2, e3⟩ := y
    rw [List.getElem?_map, Array.getElem?_toList, e2] at e
    cases e
    subst e3
    exact ⟨w, Grow.refl S, e1.symm, .str _⟩
theorem it_rng {lo hi : Int} : ItOk c (Itr lo (hi - lo).toNat) (rngD lo hi) false (fun _ => True) where
  perF := fun _ _ _ _ _ => trivial
  go := fun w i _ l => by
    show i < (hi - lo).toNat
    have l : i < (List.map _ (List.range (hi - lo).toNat)).length := l
    rw [List.length_map, List.length_range] at l
    exact l
  stop := fun w _ => by
    show (hi - lo).toNat ≤ _
    simp [rngD]
  yld := fun w i v H' d fr σ _ S e y => by
    obtain ⟨e1, e2⟩ := y
    have e3 : d = .int (lo + (i : Nat)) := by
      unfold rngD at e
      rw [List.getElem?_map, Option.map_eq_some_iff] at e
      obtain ⟨j, f1, f2⟩ := e
      rw [List.getElem?_range (by
        have := (List.getElem?_eq_some_iff.mp f1).1
        simpa using this)] at f1
      cases f1
      exact f2.symm
    subst e2 e3
    exact ⟨w, Grow.refl S, e1.symm, .int _⟩
theorem scr_reps (F : Addr → Prop) (H : Hp) : ∀ ns : List Int, Reps c F H (ns.map .int) (ns.map .int)
  | [] => .nil
  | n :: ns => .cons (.int n) (scr_reps F H ns)
/-- .. an operand kept, then walked -/
theorem src_val {ce : CE} {R : It → Hp → Prop} (h : tI (c := c) (W := W) (evI g (.val ce)) false σ H R) : iList c.K (tE c W (evE g ce)) σ H R ∨ iTup c.K (tE c W (evE g ce)) σ H R ∨ iStr (tE c W (evE g ce)) σ H R := by
  obtain ⟨w, s, rfl, S, h⟩ := h
  unfold evI at h
  have key : ∀ {B : VK}, (∀ r s1 d ds w1 v, evE g ce s = .ok r s1 → keepR r = some d → iterD d = some ds → Ext w w1 → SR c w1 s1.fr σ → RR c w w1 σ r v →
      (∀ (w1 w2 : Wd) (J : It) (Cond : Wd → Prop), Ext w w2 → SR c w2 s1.fr σ → ItOk c J ds false Cond → Cond w2 → R J w2.H) → B v w1.H) → tE c W (evE g ce) σ w.H B := fun {B} hB =>
    ⟨w, s, rfl, S, h.bind.eqs.imp fun r s1 w1 x S1 ⟨er, G⟩ v rr => by
      have G : Go c W σ (M.opt (keepR r) >>= fun d => M.opt (iterD d)) w s1 _ := G
      obtain ⟨d, e1, G⟩ := G.optB
      cases e2 : iterD d with
      | none => rw [e2] at G; exact (G.of_bad rfl).elim
      | some ds =>
        rw [e2] at G
        exact hB r s1 d ds w1 v er e1 e2 x S1 rr (fun w1 w2 J Cond x2 S2 K cd => Go.of_ok G (a := ds) (s1 := s1) rfl x2 S2 w1 w2 J Cond x2 S2 K cd)⟩
  cases he : evE g ce s with
  | bad => exact ((h.badB he)).elim
  | exc k vs s' =>
    refine .inl (key fun r s1 d ds w1 v er => ?_)
    rw [he] at er; cases er
  | ok r0 s0 =>
    have G := h.okB he
    have G : Go c W σ (M.opt (keepR r0) >>= fun d => M.opt (iterD d)) w s0 _ := G
    obtain ⟨d0, e1, G⟩ := G.optB
    have same : ∀ {r s1 d}, evE g ce s = .ok r s1 → keepR r = some d → d = d0 := fun {r s1 d} er ek => by
      rw [he] at er; cases er
      rw [e1] at ek; exact (Option.some.inj ek).symm
    cases d0 with
    | lst xs =>
      refine .inl (key fun r s1 d ds w1 v er ek ei x S1 rr fin => ?_)
      cases same er ek
      cases ei
      obtain ⟨bs, b1, b2, b3⟩ := rr.kept x S1 ek
      have b3' := b3
      cases b3 with
      | @lst a us _ f hh r =>
        exact ⟨a, rfl, ⟨us, SqL.of hh⟩, fin w1 (w1.keep bs) _ _ (x.keep b1) (S1.keep b2) (it_list fun F H h => by
          cases h with
          | lst _ hh r => exact ⟨_, SqL.of hh, r⟩) b3'⟩
    | scr ns =>
      refine .inl (key fun r s1 d ds w1 v er ek ei x S1 rr fin => ?_)
      cases same er ek
      cases ei
      obtain ⟨bs, b1, b2, b3⟩ := rr.kept x S1 ek
      have rp := @scr_reps c
      have W1 : WR c (w1.keep bs) (.scr ns) v := .inl b3
      obtain ⟨a, ev, hs⟩ := W1.scr
      subst ev
      refine ⟨a, rfl, ⟨_, hs⟩, fin w1 (w1.keep bs) _ _ (x.keep b1) (S1.keep b2) (it_list (d := .scr ns) fun F H h => ?_) b3⟩
      obtain ⟨a', ea, hs'⟩ := WR.scr (w := ⟨F, H, []⟩) (.inl h)
      cases ea
      exact ⟨_, hs', rp _ _ ns⟩
    | tup xs =>
      refine .inr (.inl (key fun r s1 d ds w1 v er ek ei x S1 rr fin => ?_))
      cases same er ek
      cases ei
      obtain ⟨bs, b1, b2, b3⟩ := rr.kept x S1 ek
      have b3' := b3
      cases b3 with
      | @tup a o us _ f hh n r => exact ⟨a, rfl, ⟨us, sqT hh⟩, fin w1 (w1.keep bs) _ _ (x.keep b1) (S1.keep b2) it_tup b3'⟩
    | str z =>
      refine .inr (.inr (key fun r s1 d ds w1 v er ek ei x S1 rr fin => ?_))
      cases same er ek
      cases ei
      obtain ⟨bs, b1, b2, b3⟩ := rr.kept x S1 ek
      cases b3
      exact ⟨z, rfl, fin w1 (w1.keep bs) _ _ (x.keep b1) (S1.keep b2) it_str trivial⟩
    | _ => exact (G.of_bad rfl).elim
theorem ran_of {i : Int} (h : ranOk i = true) : -(2 ^ 62) ≤ i ∧ i < 2 ^ 62 := by simpa [ranOk] using h
theorem src_rng1 {ce : CE} {R : It → Hp → Prop} (h : tI (c := c) (W := W) (evI g (.rng1 ce)) false σ H R) : iRng1 (tCons (tE c W (evE g ce)) tNil) σ H R := by
  obtain ⟨w, s, rfl, S, h⟩ := h
  unfold evI at h
  show tE c W (evE g ce) σ w.H (fun x H1 => ∃ j : Int, [x] = [.int j] ∧ -(2 ^ 62) ≤ j ∧ j < 2 ^ 62 ∧ R (Itr 0 j.toNat) H1)
  refine tE.bind S h fun r s1 w1 v x S1 rr G => ?_
  have G : Go c W σ (M.opt (keepR r) >>= fun d => _) w s1 _ := G
  obtain ⟨d, e1, G⟩ := G.optB
  cases d with
  | int j =>
    obtain ⟨bs, b1, b2, b3⟩ := rr.kept x S1 e1
    cases b3
    have G : Go c W σ (if ranOk j = true then pure (rngD 0 j) else M.bad) w s1 _ := G
    by_cases hr : ranOk j = true
    · rw [if_pos hr] at G
      obtain ⟨r1, r2⟩ := ran_of hr
      have K := it_rng (c := c) (lo := 0) (hi := j)
      rw [Int.sub_zero] at K
      exact ⟨j, rfl, r1, r2, Go.of_ok G (a := rngD 0 j) (s1 := s1) rfl x S1 w1 w1 _ _ x S1 K trivial⟩
    · rw [if_neg hr] at G; exact (G.of_bad rfl).elim
  | _ => exact (G.of_bad rfl).elim
theorem src_rng2 {ca cb : CE} {R : It → Hp → Prop} (h : tI (c := c) (W := W) (evI g (.rng2 ca cb)) false σ H R) : iRng2 (tCons (tE c W (evE g ca)) (tCons (tE c W (evE g cb)) tNil)) σ H R := by
  obtain ⟨w, s, rfl, S, h⟩ := h
  unfold evI at h
  show tE c W (evE g ca) σ w.H (fun x H1 => tE c W (evE g cb) σ H1 fun y H2 => ∃ i j : Int, [x, y] = [.int i, .int j] ∧ (-(2 ^ 62) ≤ i ∧ i < 2 ^ 62 ∧ -(2 ^ 62) ≤ j ∧ j < 2 ^ 62) ∧ R (Itr i (j - i).toNat) H2)
  refine tE.bind S h fun r s1 w1 v x S1 rr G => ?_
  have G : Go c W σ (M.opt (keepR r) >>= fun d => _) w s1 _ := G
  obtain ⟨d, e1, G⟩ := G.optB
  obtain ⟨bs, b1, b2, b3⟩ := rr.kept x S1 e1
  refine ⟨w1, s1, rfl, S1, (G.bind.up x).imp fun r2 s2 w2 x2 S2 G2 u rr2 => ?_⟩
  have G2 : Go c W σ (M.opt (keepR r2) >>= fun d => _) w s2 _ := G2
  obtain ⟨d2, e2, G2⟩ := G2.optB
  obtain ⟨bs2, c1, c2, c3⟩ := rr2.kept x2 S2 e2
  cases d with
  | int i =>
    cases d2 with
    | int j =>
      cases b3
      cases c3
      have G2 : Go c W σ (if ranOk i = true ∧ ranOk j = true then pure (rngD i j) else M.bad) w s2 _ := G2
      by_cases hr : ranOk i = true ∧ ranOk j = true
      · rw [if_pos hr] at G2
        obtain ⟨r1, r2⟩ := ran_of hr.1
        obtain ⟨r3, r4⟩ := ran_of hr.2
        exact ⟨i, j, rfl, ⟨r1, r2, r3, r4⟩, Go.of_ok G2 (a := rngD i j) (s1 := s2) rfl (x.trans x2) S2 w2 w2 _ _ (x.trans x2) S2 it_rng trivial⟩
      · rw [if_neg hr] at G2; exact (G2.of_bad rfl).elim
    | _ => exact (G2.of_bad rfl).elim
  | _ => exact (G2.of_bad rfl).elim
end
end Mi

set_option Elab.async false
set_option linter.all false
set_option maxRecDepth 100000
set_option maxHeartbeats 2000000
/-! Mi: comprehensions. -/
namespace Mi
open PySem L2
section
variable {c : Cn} {W : XW} {P : St → Prop} {g : G} {σ τ : St} {H : Hp} {Q : VK} {α β : Type} {w w0 w1 : Wd} {s s1 : Sta} {own : List Nat}
abbrev WF : XW := fun _ _ _ _ _ => False
theorem SR.wipe {fr : List Slot} (S : SR c w fr σ) : ∀ own : List Nat, ∃ A', SR c ⟨w.F, w.H, A'⟩ (wipeS own fr) (L2.wipe σ own) ∧ ∀ b ∈ A', b ∈ w.A
  | [] => ⟨w.A, S, fun _ h => h⟩
  | i :: own => by
    obtain ⟨A1, S1, m1⟩ := SR.wipe S own
    obtain ⟨A2, r2, sub⟩ := S1.rel.setE (i := i) none
    exact ⟨A2, ⟨r2, S1.nd.sublist sub, fun b m => S1.nf b (sub.subset m), S1.fd⟩, fun b m => m1 b (sub.subset m)⟩
theorem wipe_get : ∀ (own : List Nat) (σ : St) (j : Nat), (L2.wipe σ own)[j]? = if j ∈ own ∧ j < σ.length then some none else σ[j]?
  | [], σ, j => by simp [L2.wipe]
  | i :: own, σ, j => by
    show ((L2.wipe σ own).set i none)[j]? = _
    rw [List.getElem?_set, wipe_length, wipe_get own σ j]
    by_cases e : i = j
    · subst e
      by_cases l : i < σ.length
      · simp [l]
      · have : σ[i]? = none := List.getElem?_eq_none (Nat.le_of_not_lt l)
        simp [l, this]
    · have e' : j ≠ i := fun z => e z.symm
      simp [e, e']
theorem wipe_same {is : List Nat} (hs : ∀ i ∈ is, i ∈ own) (h : Same is σ τ) : L2.wipe τ own = L2.wipe σ own := by
  have l := h.1
  apply List.ext_getElem?
  intro j
  rw [wipe_get, wipe_get, l]
  by_cases q : j ∈ own ∧ j < σ.length
  · rw [if_pos q, if_pos q]
  · rw [if_neg q, if_neg q]
    by_cases m : j ∈ is
    · have hl : ¬ j < σ.length := fun z => q ⟨hs j m, z⟩
      rw [List.getElem?_eq_none (by rw [l]; exact Nat.le_of_not_lt hl), List.getElem?_eq_none (Nat.le_of_not_lt hl)]
    · exact h.2 j m
theorem wipe_wipe : L2.wipe (L2.wipe σ own) own = L2.wipe σ own := by
  apply List.ext_getElem?
  intro j
  rw [wipe_get, wipe_length, wipe_get]
  by_cases q : j ∈ own ∧ j < σ.length
  · rw [if_pos q, if_pos q]
  · rw [if_neg q]
/-- the names' values as they were -/
theorem SR.restore {fr0 : List Slot} (S0 : SR c w0 fr0 σ) (x : Ext w0 w) : ∀ (own : List Nat) {fr : List Slot} {τ : St}, own.all (fun i => notOw fr0[i]?) = true → SR c w fr τ → fr.length = fr0.length →
    ∃ A', SR c ⟨w.F, w.H, A'⟩ (own.foldr (fun i f => f.set i (fr0.getD i .emp)) fr) (own.foldr (fun i t => t.set i (σ.getD i none)) τ) ∧ (∀ b ∈ A', b ∈ w.A) ∧ (own.foldr (fun i f => f.set i (fr0.getD i .emp)) fr).length = fr0.length
  | [], fr, τ, _, S, l => ⟨w.A, S, fun _ h => h, l⟩
  | i :: own, fr, τ, h, S, l => by
    rw [List.all_cons, Bool.and_eq_true] at h
    obtain ⟨A1, S1, m1, l1⟩ := SR.restore S0 x own h.2 S l
    simp only [List.foldr_cons]
    cases e : fr0[i]? with
    | none => rw [e] at h; cases h.1
    | some y =>
      have eg : fr0.getD i .emp = y := by rw [List.getD_eq_getElem?_getD, e]; rfl
      have li : i < fr0.length := (List.getElem?_eq_some_iff.mp e).1
      rw [eg]
      cases y with
      | ow d sub => rw [e] at h; cases h.1
      | emp =>
        obtain ⟨A2, r2, sub⟩ := S1.rel.setE (i := i) (σ.getD i none)
        exact ⟨A2, ⟨r2, S1.nd.sublist sub, fun b m => S1.nf b (sub.subset m), S1.fd⟩, fun b m => m1 b (sub.subset m), by rw [List.length_set]; exact l1⟩
      | fz d =>
        obtain ⟨v, ev, rv⟩ := S0.rel.getF e
        have es : σ.getD i none = some v := by rw [List.getD_eq_getElem?_getD, ev]; rfl
        rw [es]
        obtain ⟨A2, S2, _, m2⟩ := S1.setF (by rw [l1]; exact li) (S0.rep x rv)
        exact ⟨A2, S2, fun b m => m1 b (m2 b m), by rw [List.length_set]; exact l1⟩
theorem unwipe : own.foldr (fun i t => t.set i (σ.getD i none)) (L2.wipe σ own) = σ := by
  have gen : ∀ (own : List Nat) (τ : St), τ.length = σ.length → ∀ j, (own.foldr (fun i t => t.set i (σ.getD i none)) τ)[j]? = if j ∈ own then σ[j]? else τ[j]? := by
    intro own
    induction own with
    | nil => intro τ _ j; simp
    | cons i own ih =>
      intro τ l j
      simp only [List.foldr_cons]
      have len : (own.foldr (fun i t => t.set i (σ.getD i none)) τ).length = σ.length := by
        clear ih
        induction own with
        | nil => exact l
        | cons i own ih => simp only [List.foldr_cons, List.length_set]; exact ih
      rw [List.getElem?_set, len, ih τ l j]
      by_cases e : i = j
      · subst e
        by_cases li : i < σ.length
        · simp [li, List.getD_eq_getElem?_getD]
        · have : σ[i]? = none := List.getElem?_eq_none (Nat.le_of_not_lt li)
          simp [li, this]
      · have e' : j ≠ i := fun z => e z.symm
        simp [e, e']
  apply List.ext_getElem?
  intro j
  rw [gen own _ (wipe_length σ own), wipe_get]
  by_cases q : j ∈ own
  · rw [if_pos q]
  · rw [if_neg q, if_neg (fun z => q z.1)]
/-- a block's run, from within -/
theorem blk_go {m : M α} {k : α → M β} {A : β → Sta → Wd → Prop} (x : Ext w0 w) (S : SR c w s.fr σ) (h : Go c W σ (blk own m >>= k) w0 s A) (P : St → Prop) :
    ∃ A', SR c ⟨w.F, w.H, A'⟩ (wipeS own s.fr) (L2.wipe σ own) ∧ Ext w ⟨w.F, w.H, A'⟩ ∧
    GoS c WF P m w0 { s with fr := wipeS own s.fr } fun a s' w' σ' => σ' = L2.wipe σ own → Ext w w' → ∃ s2 A2, SR c ⟨w'.F, w'.H, A2⟩ s2.fr σ ∧ Ext w0 ⟨w'.F, w'.H, A2⟩ ∧ Go c W σ (k a) w0 s2 A ∧ ∀ b ∈ A2, b ∈ w'.A := by
  obtain ⟨A', S', mem⟩ := S.wipe own
  refine ⟨A', S', ⟨fun _ h => h, fun _ _ e _ => e, fun _ h => .inl h, fun b m => .inl (mem b m), fun _ h => h⟩, ?_⟩
  have eb : blk own m s = if own.all (fun i => notOw s.fr[i]?) = true then (match m { s with fr := wipeS own s.fr } with
    | .ok a s' => .ok a { s' with fr := own.foldr (fun i f => f.set i (s.fr.getD i .emp)) s'.fr }
    | _ => .bad) else .bad := rfl
  by_cases ho : own.all (fun i => notOw s.fr[i]?) = true
  case neg => rw [if_neg ho] at eb; exact (h.badB eb).elim
  rw [if_pos ho] at eb
  unfold GoS
  cases em : m { s with fr := wipeS own s.fr } with
  | bad => rw [em] at eb; exact (h.badB eb).elim
  | exc k' vs s' => rw [em] at eb; exact (h.badB eb).elim
  | ok a s' =>
    rw [em] at eb
    have G := h.okB eb
    intro w' σ' x' p S2 e xw
    subst e
    have ls : s'.fr.length = s.fr.length := by rw [S2.rel.length, S.rel.length, wipe_length]
    obtain ⟨A2, S3, m2, _⟩ := SR.restore S xw own ho S2 ls
    rw [unwipe] at S3
    exact ⟨_, A2, S3, ⟨x'.f, x'.h, x'.g, fun b m => x'.a b (m2 b m), x'.d⟩, G, m2⟩
theorem t_lc {src : CI} {tg : Tg} {t : CT} {e : CE} {pr : Bool} (hp : pr = true → pairTg tg = true) (ht : ∀ i ∈ tgIx tg, i ∈ own) (h : tE c W (evE g (.lc src tg t e own)) σ H Q) :
    tLc (tI (c := c) (W := W) (evI g src) pr) (gT c.K tg) (tT c WF (evT g t)) (tE c WF (evE g e)) own σ H Q := by
  obtain ⟨w, s, rfl, S, h⟩ := h
  unfold evE at h
  refine ⟨w, s, rfl, S, h.bind.imp fun ds s1 wx x1 S1 G1 => fun _ w1 J Cond x S1 K cd => ?_⟩
  intro D hD
  -- the block
  obtain ⟨A', S', x', G2⟩ := blk_go x S1 G1 (fun τ => L2.wipe τ own = L2.wipe σ own)
  let f : Mi.D → M (Option Mi.D) := fun d => do
      asgTg tg d
      if (← evT g t) = true then do
        let x ← keepM (← evE g e)
        wipeM own
        pure (some x)
      else do
        wipeM own
        pure none
  let Bf : List Mi.D → Sta → Wd → St → Prop := fun a s' w' σ' => σ' = L2.wipe σ own → Ext w1 w' → ∃ s2 A2, SR c ⟨w'.F, w'.H, A2⟩ s2.fr σ ∧ Ext w ⟨w'.F, w'.H, A2⟩ ∧ Go c W σ (pure (R.ow (.lst a) [])) w s2 (fun r s' w' => ∀ v, RR c w w' σ r v → Q v w'.H) ∧ ∀ b ∈ A2, b ∈ w'.A
  let Inv : Nat → Hp → Prop := fun i H' => ∃ (w' : Wd) (s' : Sta) (aD : List Mi.D) (aV : List V), w'.H = H' ∧ Ext w1 w' ∧ SR c w' s'.fr (L2.wipe σ own) ∧ H' D = some (.lst aV) ∧ Reps c w'.F w'.H aD aV ∧ ¬ w'.F D ∧ D ∉ w'.A ∧
    GoS c WF (fun τ => L2.wipe τ own = L2.wipe σ own) (lcL f (ds.drop i) aD) w s' Bf
  refine ⟨fun i m H' => m = ds.length - i ∧ i ≤ ds.length ∧ Inv i H', ⟨_, rfl, Nat.zero_le _, ?_⟩, ?_⟩
  · -- the new list
    have nF : ¬ w1.F D := fun z => S1.fd D z hD
    have nA : D ∉ w1.A := fun z => S1.rel.dom D z hD
    have gr : Grow (⟨w1.F, w1.H, A'⟩ : Wd) (Wd.new ⟨w1.F, w1.H, A'⟩ D (.lst [])) := Grow.new S' hD
    refine ⟨Wd.new ⟨w1.F, w1.H, A'⟩ D (.lst []), { s1 with fr := wipeS own s1.fr }, [], [], rfl, x'.trans gr.ext, gr.sr S', upd_same, .nil, nF, fun z => ?_, G2⟩
    rcases x'.a D z with q | q
    · exact nA q
    · exact S'.rel.dom D z q
  rintro i m H' ⟨rfl, hi, w', s', aD, aV, rfl, y, Sw, eD, rA, nF, nA, G⟩
  have cd' : Cond w' := K.per w1 w' _ _ cd S1 y
  by_cases hlt : i < ds.length
  · refine .inr ⟨K.go w' i cd' hlt, fun H2 => i + 1 ≤ ds.length ∧ Inv (i + 1) H2, fun H2 z => ⟨ds.length - (i + 1), by omega, rfl, z.1, z.2⟩, fun v H2 hy => ?_⟩
    have e1 : ds.drop i = ds[i] :: ds.drop (i + 1) := List.drop_eq_getElem_cons hlt
    rw [e1] at G
    have G : GoS c WF _ ((asgTg tg ds[i] >>= fun _ => evT g t >>= fun b => if b = true then (evE g e >>= fun r => keepM r >>= fun x => wipeM own >>= fun _ => pure (some x)) else (wipeM own >>= fun _ => pure none)) >>= fun o => match o with
      | none => lcL f (ds.drop (i + 1)) aD
      | some x => if aD.length < LIM then lcL f (ds.drop (i + 1)) (aD ++ [x]) else M.bad) w s' Bf := G
    have G := G.assoc
    refine it_go K hp (x.trans y) cd' Sw (List.getElem?_eq_getElem hlt) hy G fun s2 w2 σ2 y1 y2 S2 sm G2 => ?_
    have ew : L2.wipe σ2 own = L2.wipe σ own := (wipe_same ht sm).trans wipe_wipe
    refine ⟨ew, ?_⟩
    have eD2 : w2.H D = some (.lst aV) := y2.h D _ eD nA
    have hb : w'.H D ≠ none := by rw [eD]; exact fun z => by cases z
    have nF2 : ¬ w2.F D := y2.notF hb nF nA
    have nA2 : D ∉ w2.A := y2.notA hb nA
    have G2 := G2.assoc
    refine tT.stm' (P := fun τ => L2.wipe τ own = L2.wipe σ own) ew y1 S2 G2 fun b s3 w3 x3 S3 G3 => ?_
    have eD3 : w3.H D = some (.lst aV) := x3.h D _ eD2 nA2
    have hb2 : w2.H D ≠ none := by rw [eD2]; exact fun z => by cases z
    have nF3 : ¬ w3.F D := x3.notF hb2 nF2 nA2
    have nA3 : D ∉ w3.A := x3.notA hb2 nA2
    have yy3 : Ext w1 w3 := (y.trans y2).trans x3
    cases b with
    | false =>
      rw [if_neg Bool.false_ne_true]
      obtain ⟨A3, S3', m3⟩ := S3.wipe own
      rw [ew] at S3'
      have x4 : Ext w3 ⟨w3.F, w3.H, A3⟩ := ⟨fun _ h => h, fun _ _ e _ => e, fun _ h => .inl h, fun b m => .inl (m3 b m), fun _ h => h⟩
      exact ⟨hlt, ⟨w3.F, w3.H, A3⟩, { s3 with fr := wipeS own s3.fr }, aD, aV, rfl, yy3.trans x4, S3', eD3, (Sw.reps y2 rA |> S2.reps x3), nF3, fun z => nA3 (m3 D z), G3.eqM rfl⟩
    | true =>
      rw [if_pos rfl]
      have G3 : GoS c WF (fun τ => L2.wipe τ own = L2.wipe σ own) (evE g e >>= fun r => (keepM r >>= fun x => wipeM own >>= fun _ => pure (some x)) >>= fun o => match o with
        | none => lcL f (ds.drop (i + 1)) aD
        | some x => if aD.length < LIM then lcL f (ds.drop (i + 1)) (aD ++ [x]) else M.bad) w s3 Bf := GoS.assoc G3
      refine tE.stm' (P := fun τ => L2.wipe τ own = L2.wipe σ own) ew (y1.trans x3) S3 G3 fun r s4 w4 u x4 S4 R4 G4 => ?_
      have G4 := G4.assoc
      obtain ⟨d, w5, h5, a5, x5, S5, rd, G5, f5, f6⟩ := keep_go (y1.trans x3) x4 S4 R4 G4
      have G5 : GoS c WF (fun τ => L2.wipe τ own = L2.wipe σ own) (if aD.length < LIM then lcL f (ds.drop (i + 1)) (aD ++ [d]) else M.bad) w { s4 with fr := wipeS own s4.fr } Bf := G5.eqM rfl
      by_cases hl : aD.length < LIM
      case neg => rw [if_neg hl] at G5; exact (G5.of_bad rfl).elim
      rw [if_pos hl] at G5
      have eD4 : w4.H D = some (.lst aV) := x4.h D _ eD3 nA3
      have hb3 : w3.H D ≠ none := by rw [eD3]; exact fun z => by cases z
      have nF4 : ¬ w4.F D := x4.notF hb3 nF3 nA3
      have nA4 : D ∉ w4.A := x4.notA hb3 nA3
      have rA4 := S3.reps x4 (S2.reps x3 (Sw.reps y2 rA))
      have rA5 : Reps c w5.F w5.H aD aV := rA4.mono f5 fun a o _ e => by rw [h5]; exact e
      have eD5 : w5.H D = some (.lst aV) := by rw [h5]; exact eD4
      have nF5 : ¬ w5.F D := fun z => (f6 D z).elim nF4 fun q => q.elim nA3 hb3
      have nA5 : D ∉ w5.A := by rw [a5]; exact nA4
      have up : ∀ a o, w5.F a → w5.H a = some o → (upd w5.H D (.lst (aV ++ [u]))) a = some o := fun a o f e => by
        rw [upd_ne (fun z => nF5 (by rw [← z]; exact f))]; exact e
      obtain ⟨A6, S6, m6⟩ := S5.wipe own
      rw [ew] at S6
      have hl' : aV.length < sizeLine := by rw [← lim_eq, ← rA.length]; exact hl
      have x15 : Ext w1 w5 := ⟨fun a f => f5 a ((yy3.trans x4).f a f), fun a o e n => by rw [h5]; exact (yy3.trans x4).h a o e n, fun a z => (f6 a z).elim ((yy3.trans x4).g a) fun q => q.elim (fun m => (yy3.a a m).elim (fun m => .inr (.inr m)) fun n => .inr (.inl n)) fun n => .inr (.inl (Classical.byContradiction fun q => yy3.d a q n)),
        fun b m => (yy3.trans x4).a b (by rw [← a5]; exact m), fun a z => by rw [h5]; exact (yy3.trans x4).d a z⟩
      refine ⟨aV, eD4, hl', hlt, ⟨w5.F, upd w5.H D (.lst (aV ++ [u])), A6⟩, { s4 with fr := wipeS own s4.fr }, aD ++ [d], aV ++ [u], by rw [h5], ?_, ?_, upd_same, ?_, nF5, fun z => nA5 (m6 D z), G5⟩
      · refine ⟨x15.f, fun a o e n => ?_, x15.g, fun b m => x15.a b (m6 b m), fun a z => ?_⟩
        · show upd w5.H D _ a = _
          rw [upd_ne (ne_of_none e hD)]
          exact x15.h a o e n
        · show upd w5.H D _ a ≠ none
          by_cases q : a = D
          · rw [q, upd_same]; exact fun z => by cases z
          · rw [upd_ne q]; exact x15.d a z
      · refine ⟨S6.rel.mono (fun _ h => h) up fun a o m e => ?_, S6.nd, S6.nf, fun a f => ?_⟩
        · show upd w5.H D _ a = _
          rw [upd_ne (fun z => nA5 (m6 D (by rw [← z]; exact m)))]; exact e
        · show upd w5.H D _ a ≠ none
          rw [upd_ne (fun z => nF5 (by rw [← z]; exact f))]; exact S5.fd a f
      · exact (rA5.append (.cons rd .nil)).mono (fun _ h => h) up
  · have e1 : i = ds.length := by omega
    subst e1
    rw [List.drop_length] at G
    refine .inl ⟨K.stop w' cd', ?_⟩
    obtain ⟨s2, A2, S5, x5, G5, m5⟩ := GoS.of_ok (W := WF) G (a := aD) rfl (x.trans y) wipe_wipe Sw rfl y
    have q := Go.of_ok G5 (a := R.ow (.lst aD) []) rfl x5 S5 (.ref D) ⟨D, [], rfl, .lst eD rA, by simp, fun b m => ?_⟩
    · exact q
    · rw [List.mem_singleton.mp m]
      refine ⟨nF, fun z => nA (m5 D z), .inr (Classical.byContradiction fun q => x.d D q hD)⟩
end
end Mi

set_option Elab.async false
set_option linter.all false
set_option maxRecDepth 100000
set_option maxHeartbeats 2000000
/-! Mi: dict comprehensions. -/
namespace Mi
open PySem L2
section
variable {c : Cn} {W : XW} {P : St → Prop} {g : G} {σ τ : St} {H : Hp} {Q : VK} {α β : Type} {w w0 w1 : Wd} {s s1 : Sta} {own : List Nat}
theorem t_dc {src : CI} {tg : Tg} {ka va : CE} {pr : Bool} (hp : pr = true → pairTg tg = true) (ht : ∀ i ∈ tgIx tg, i ∈ own) (h : tE c W (evE g (.dc src tg ka va own)) σ H Q) :
    L2.tDc (tI (c := c) (W := W) (evI g src) pr) (gT c.K tg) tYes (tE c WF (evE g ka)) (tE c WF (evE g va)) own σ H Q := by
  obtain ⟨w, s, rfl, S, h⟩ := h
  unfold evE at h
  refine ⟨w, s, rfl, S, h.bind.imp fun ds s1 wx x1 S1 G1 => fun _ w1 J Cond x S1 K cd => ?_⟩
  intro D hD
  -- the block
  obtain ⟨A', S', x', G2⟩ := blk_go x S1 G1 (fun τ => L2.wipe τ own = L2.wipe σ own)
  let f : Mi.D → M (Key × Mi.D) := fun d => do
      asgTg tg d
      let kr ← evE g ka
      let vr ← evE g va
      let kd ← keepM kr
      let vd ← keepM vr
      let kk ← M.opt (keyOf kd)
      wipeM own
      pure (kk, vd)
  let Bf : List (Key × Mi.D) → Sta → Wd → St → Prop := fun a s' w' σ' => σ' = L2.wipe σ own → Ext w1 w' → ∃ s2 A2, SR c ⟨w'.F, w'.H, A2⟩ s2.fr σ ∧ Ext w ⟨w'.F, w'.H, A2⟩ ∧ Go c W σ (pure (R.ow (.dic a) [])) w s2 (fun r s' w' => ∀ v, RR c w w' σ r v → Q v w'.H) ∧ ∀ b ∈ A2, b ∈ w'.A
  let Inv : Nat → Hp → Prop := fun i H' => ∃ (w' : Wd) (s' : Sta) (aD : List (Key × Mi.D)) (aV : List (Key × V)), w'.H = H' ∧ Ext w1 w' ∧ SR c w' s'.fr (L2.wipe σ own) ∧ H' D = some (.dK aV) ∧ RepK c w'.F w'.H aD aV ∧ ¬ w'.F D ∧ D ∉ w'.A ∧
    GoS c WF (fun τ => L2.wipe τ own = L2.wipe σ own) (dcL f (ds.drop i) aD) w s' Bf
  refine ⟨fun i m H' => m = ds.length - i ∧ i ≤ ds.length ∧ Inv i H', ⟨_, rfl, Nat.zero_le _, ?_⟩, ?_⟩
  · -- the new list
    have nF : ¬ w1.F D := fun z => S1.fd D z hD
    have nA : D ∉ w1.A := fun z => S1.rel.dom D z hD
    have gr : Grow (⟨w1.F, w1.H, A'⟩ : Wd) (Wd.new ⟨w1.F, w1.H, A'⟩ D (.dK [])) := Grow.new S' hD
    refine ⟨Wd.new ⟨w1.F, w1.H, A'⟩ D (.dK []), { s1 with fr := wipeS own s1.fr }, [], [], rfl, x'.trans gr.ext, gr.sr S', upd_same, .nil, nF, fun z => ?_, G2⟩
    rcases x'.a D z with q | q
    · exact nA q
    · exact S'.rel.dom D z q
  rintro i m H' ⟨rfl, hi, w', s', aD, aV, rfl, y, Sw, eD, rA, nF, nA, G⟩
  have cd' : Cond w' := K.per w1 w' _ _ cd S1 y
  by_cases hlt : i < ds.length
  · refine .inr ⟨K.go w' i cd' hlt, fun H2 => i + 1 ≤ ds.length ∧ Inv (i + 1) H2, fun H2 z => ⟨ds.length - (i + 1), by omega, rfl, z.1, z.2⟩, fun v H2 hy => ?_⟩
    have e1 : ds.drop i = ds[i] :: ds.drop (i + 1) := List.drop_eq_getElem_cons hlt
    rw [e1] at G
    have G : GoS c WF _ ((asgTg tg ds[i] >>= fun _ => evE g ka >>= fun kr => evE g va >>= fun vr => keepM kr >>= fun kd => keepM vr >>= fun vd => M.opt (keyOf kd) >>= fun kk => wipeM own >>= fun _ => pure (kk, vd)) >>= fun q => match q with
      | (k, v) => if aD.length < LIM then dcL f (ds.drop (i + 1)) (dput aD k v) else M.bad) w s' Bf := G
    have G := G.assoc
    refine it_go K hp (x.trans y) cd' Sw (List.getElem?_eq_getElem hlt) hy G fun s2 w2 σ2 y1 y2 S2 sm G2 => ?_
    have ew : L2.wipe σ2 own = L2.wipe σ own := (wipe_same ht sm).trans wipe_wipe
    refine ⟨ew, ?_⟩
    have eD2 : w2.H D = some (.dK aV) := y2.h D _ eD nA
    have hb : w'.H D ≠ none := by rw [eD]; exact fun z => by cases z
    have nF2 : ¬ w2.F D := y2.notF hb nF nA
    have nA2 : D ∉ w2.A := y2.notA hb nA
    have G2 := G2.assoc
    unfold L2.tYes
    dsimp only
    rw [if_pos rfl]
    refine tE.stm' (P := fun τ => L2.wipe τ own = L2.wipe σ own) ew y1 S2 G2 fun r s3 w3 u x3 S3 R3 G3 => ?_
    have eD3 : w3.H D = some (.dK aV) := x3.h D _ eD2 nA2
    have hb2 : w2.H D ≠ none := by rw [eD2]; exact fun z => by cases z
    have nF3 : ¬ w3.F D := x3.notF hb2 nF2 nA2
    have nA3 : D ∉ w3.A := x3.notA hb2 nA2
    have yy3 : Ext w1 w3 := (y.trans y2).trans x3
    have G3 := G3.assoc
    -- the value, told from the key's world
    refine ⟨w3, s3, rfl, S3, ((GoS.exp (σ := σ2) (P := fun τ => L2.wipe τ own = L2.wipe σ own) ew G3).up (y1.trans x3)).imp fun r2 s4 w4 x4 S4 G4 v2 R4 => ?_⟩
    have G4 : GoS c WF (fun τ => L2.wipe τ own = L2.wipe σ own) (keepM r >>= fun kd => keepM r2 >>= fun vd => (M.opt (keyOf kd) >>= fun kk => wipeM own >>= fun _ => pure (kk, vd)) >>= fun q => match q with
      | (k, v) => if aD.length < LIM then dcL f (ds.drop (i + 1)) (dput aD k v) else M.bad) w s4 Bf := G4.eqM (by
        show M.bind (M.bind (keepM r) _) _ s4 = M.bind _ _ s4
        unfold M.bind
        cases keepM r s4 with
        | bad => rfl
        | exc _ _ _ => rfl
        | ok d s5 =>
          show M.bind (M.bind (keepM r2) _) _ s5 = M.bind _ _ s5
          unfold M.bind
          cases keepM r2 s5 <;> rfl)
    have G4 : GoS c WF (fun τ => L2.wipe τ own = L2.wipe σ own) (M.opt (keepR r) >>= fun kd => M.opt (keepR r2) >>= fun vd => (M.opt (keyOf kd) >>= fun kk => wipeM own >>= fun _ => pure (kk, vd)) >>= fun q => match q with
      | (k, v) => if aD.length < LIM then dcL f (ds.drop (i + 1)) (dput aD k v) else M.bad) w s4 Bf := G4
    obtain ⟨kd, ek, G4⟩ := G4.optB
    obtain ⟨vd, ev, G4⟩ := G4.optB
    have G4 := G4.assoc
    obtain ⟨kk, ekk, G4⟩ := G4.optB
    have G5 : GoS c WF (fun τ => L2.wipe τ own = L2.wipe σ own) (if aD.length < LIM then dcL f (ds.drop (i + 1)) (dput aD kk vd) else M.bad) w { s4 with fr := wipeS own s4.fr } Bf := G4.eqM rfl
    by_cases hl : aD.length < LIM
    case neg => rw [if_neg hl] at G5; exact (G5.of_bad rfl).elim
    rw [if_pos hl] at G5
    have x24 := x3.trans x4
    obtain ⟨bs, b1, b2, b3⟩ := RRs.kept x24 S4 (.cons (R3.step S3 x4) (.cons (R4.weak x3) .nil)) (ds := [kd, vd]) (by simp [keepAll, ek, ev])
    have eD4 : w4.H D = some (.dK aV) := x4.h D _ eD3 nA3
    have hb3 : w3.H D ≠ none := by rw [eD3]; exact fun z => by cases z
    have nF4 : ¬ w4.F D := x4.notF hb3 nF3 nA3
    have nA4 : D ∉ w4.A := x4.notA hb3 nA3
    have nb : D ∉ bs := fun z => (b1 D z).elim nA2 hb2
    have S5 := S4.keep b2
    have rA4 : RepK c w4.F w4.H aD aV := ((rA.mono y2.f (Sw.fH y2)).mono x3.f (S2.fH x3)).mono x4.f (S3.fH x4)
    have rA5 : RepK c (w4.keep bs).F (w4.keep bs).H aD aV := rA4.mono (fun _ h => .inl h) fun a o _ e => e
    have nF5 : ¬ (w4.keep bs).F D := fun z => z.elim nF4 nb
    have up : ∀ a o, (w4.keep bs).F a → w4.H a = some o → (upd w4.H D (.dK (putK aV kk v2))) a = some o := fun a o f e => by
      rw [upd_ne (fun z => nF5 (by rw [← z]; exact f))]; exact e
    obtain ⟨A6, S6, m6⟩ := S5.wipe own
    rw [ew] at S6
    have hl' : aV.length < sizeLine := by rw [← lim_eq, ← rA.length]; exact hl
    have x15 : Ext w1 (w4.keep bs) := ((y.trans y2).trans x24).keep fun b m => (b1 b m).elim (fun z => (y.trans y2).a b z) fun n => .inr (Classical.byContradiction fun q => (y.trans y2).d b q n)
    cases b3 with
    | cons rk b3 =>
      cases b3 with
      | cons rv _ =>
        refine ⟨aV, kk, kV_rep rk ekk, eD4, hl', hlt, ⟨(w4.keep bs).F, upd w4.H D (.dK (putK aV kk v2)), A6⟩, { s4 with fr := wipeS own s4.fr }, dput aD kk vd, putK aV kk v2, rfl, ?_, ?_, upd_same, ?_, nF5, fun z => nA4 (m6 D z), G5⟩
        · refine ⟨x15.f, fun a o e n => ?_, x15.g, fun b m => x15.a b (m6 b m), fun a z => ?_⟩
          · show upd w4.H D _ a = _
            rw [upd_ne (ne_of_none e hD)]
            exact x15.h a o e n
          · show upd w4.H D _ a ≠ none
            by_cases q : a = D
            · rw [q, upd_same]; exact fun z => by cases z
            · rw [upd_ne q]; exact x15.d a z
        · refine ⟨S6.rel.mono (fun _ h => h) up fun a o m e => ?_, S6.nd, S6.nf, fun a f => ?_⟩
          · show upd w4.H D _ a = _
            rw [upd_ne (fun z => nA4 (m6 D (by rw [← z]; exact m)))]; exact e
          · show upd w4.H D _ a ≠ none
            rw [upd_ne (fun z => nF5 (by rw [← z]; exact f))]; exact S5.fd a f
        · exact (rA5.put rv).mono (fun _ h => h) up
  · have e1 : i = ds.length := by omega
    subst e1
    rw [List.drop_length] at G
    refine .inl ⟨K.stop w' cd', ?_⟩
    obtain ⟨s2, A2, S5, x5, G5, m5⟩ := GoS.of_ok (W := WF) G (a := aD) rfl (x.trans y) wipe_wipe Sw rfl y
    have q := Go.of_ok G5 (a := R.ow (.dic aD) []) rfl x5 S5 (.ref D) ⟨D, [], rfl, .dic eD rA, by simp, fun b m => ?_⟩
    · exact q
    · rw [List.mem_singleton.mp m]
      refine ⟨nF, fun z => nA (m5 D z), .inr (Classical.byContradiction fun q => x.d D q hD)⟩
end
end Mi

set_option Elab.async false
set_option linter.all false
set_option maxRecDepth 100000
set_option maxHeartbeats 2000000
/-! Mi: what all walks share that hand out a tuple of their own making. -/
namespace Mi
open PySem L2 PyProof.Rows
theorem on_nil {p : Addr → Prop} : ∀ c ∈ ([] : List Addr), p c := fun _ z => nomatch z
theorem on_cons {p : Addr → Prop} {a : Addr} {l : List Addr} (h : p a) (t : ∀ c ∈ l, p c) : ∀ c ∈ a :: l, p c := List.forall_mem_cons.mpr ⟨h, t⟩
/-- there, and no name's cell -/
def Seen (h : Heap) (c : Addr) : Prop := ∃ o, h.get? c = some o ∧ ∀ v, o.data ≠ .cell v
theorem Seen.lt {h : Heap} {c : Addr} (z : Seen h c) : c < h.objs.size := z.elim fun _ q => Heap.lt_size q.1
theorem seen_fields {h : Heap} {c : Addr} {cls : Value} {us : Array Value} (e : h.get? c = some { cls, data := .fields us }) : Seen h c := ⟨_, e, fun _ z => nomatch z⟩
theorem seen_seq {h : Heap} {c : Addr} {cls : Value} {us : Array Value} (e : h.get? c = some { cls, data := .seq us }) : Seen h c := ⟨_, e, fun _ z => nomatch z⟩
/-- the i-th of a sequence, and what a walk draws of it -/
theorem drawn {xs : List V} {its : List Value} {i : Nat} {x : V} (r : Vals xs its) (e : xs[i]? = some x) : i < its.toArray.size ∧ ∀ u, its.toArray[i]? = some u → RelV x u := by
  have ⟨u, f, rel⟩ := r.get e
  refine ⟨?_, fun u' z => ?_⟩
  · rw [List.size_toArray]
    exact List.getElem?_eq_some_iff.mp f |>.1
  · rw [List.getElem?_toArray, f] at z
    exact Option.some.inj z ▸ rel
section
variable {X : Cx} {pins : List (Addr × Obj)} {σ : L2.St} {H : Hp} {s : Shared} {h' : Heap} {fp : List Addr} {t' : Nat}
/-- the walk's own objects have changed, and a new tuple lies on top -/
theorem tuple_made {xs : List V} {us : Array Value} (I : Inv X pins σ H s) (hf : ∀ c ∈ fp, FpOk X pins H c) (seen : ∀ c ∈ fp, Seen s.heap c) (kept : ∀ c o, c ∉ fp → s.heap.get? c = some o → h'.get? c = some o)
    (at_ : h'.get? s.heap.objs.size = some { cls := .type "tuple", data := .seq us }) (r : Vals xs us.toList) (l : xs.length ≤ sizeLine) :
    Inv X pins σ (upd H s.heap.objs.size (.tup xs)) { s with heap := h', toks := t' } ∧ H s.heap.objs.size = none ∧ ∀ c ∈ fp, upd H s.heap.objs.size (.tup xs) c = none := by
  have le := Nat.le_refl s.heap.objs.size
  refine ⟨I.turnedNew kept hf le ⟨l, us.toList, r, _, at_, rfl, _, rfl⟩, I.hok.fresh le, fun c z => ?_⟩
  rw [upd_ne (Nat.ne_of_lt (seen c z).lt)]
  exact (hf c z).1
/-- objects that are made now may be walked -/
theorem new_fp (I : Inv X pins σ H s) (new : ∀ c ∈ fp, s.heap.objs.size ≤ c) : ∀ c ∈ fp, FpOk X pins H c := fun c z => I.fpOk (new c z) (I.hok.fresh (new c z))
end
end Mi
set_option Elab.async false
set_option linter.all false
set_option maxRecDepth 100000
set_option maxHeartbeats 2000000
/-! Mi: walks that hand out new pairs. -/
namespace Mi
open PySem L2 PyProof.Rows
/-- a list or a tuple -/
def SqB (K : PySem.W.Frag) (k : Bool) (H : Hp) (a : Addr) (xs : List V) : Prop := bif k then SqL K H a xs else SqT K H a xs
def IsB (k : Bool) (h : Heap) (a : Addr) (its : Array Value) : Prop := bif k then h.IsList a its else h.IsTuple a its
def ItB (k : Bool) (h : Heap) (it a : Addr) (i : Nat) : Prop := bif k then h.IsListIter it a i else h.IsTupleIter it a i
def obB (k : Bool) (a : Addr) : Obj := bif k then { cls := .type "list_iterator", data := .fields #[.ref a, .int 0 0] } else { cls := .type "tuple_iterator", data := .fields #[.ref a, .int 0 0] }
theorem ItB.obj {k : Bool} {h : Heap} {it a : Addr} {i : Nat} (t : ItB k h it a i) : ∃ o, h.get? it = some o ∧ ∀ v, o.data ≠ .cell v := by
  cases k
  · obtain ⟨o, e, _, d⟩ := t
    exact ⟨o, e, fun v q => by rw [d] at q; cases q⟩
  · obtain ⟨o, e, _, d⟩ := t
    exact ⟨o, e, fun v q => by rw [d] at q; cases q⟩
theorem ItB.at {k : Bool} {h h' : Heap} {it a : Addr} {i : Nat} (t : ItB k h it a i) (e : ∀ o, h.get? it = some o → h'.get? it = some o) : ItB k h' it a i := by
  cases k
  · exact Heap.IsTupleIter.at (show h.IsTupleIter it a i from t) e
  · exact Heap.IsListIter.at (show h.IsListIter it a i from t) e
theorem ItB.new {k : Bool} {h' : Heap} {it a : Addr} (e : h'.get? it = some (obB k a)) : ItB k h' it a 0 := by
  cases k
  · exact ⟨_, e, rfl, rfl⟩
  · exact ⟨_, e, rfl, rfl⟩
theorem begins_B (k : Bool) (a : Addr) (its : Array Value) : Begins (.ref a) (obB k a) fun h => IsB k h a its := by
  cases k
  · exact begins_tuple a its
  · exact begins_list a its
theorem drawsB {prog : Program} {w : World} {A : Around} (k : Bool) (hh : A.handled = none) (it a : Addr) (hne : a ≠ it) (its : Array Value) :
    Draws prog w A it [it, a] its.size (fun i v => its[i]? = some v) (fun i h => ItB k h it a i ∧ IsB k h a its) := by
  cases k
  · exact Draws.tuple hh it a hne its
  · exact Draws.list hh it a hne its
section
variable {X : Cx} {pins : List (Addr × Obj)} {σ : L2.St} {H : Hp} {s : Shared}
theorem inv_B {k : Bool} {a : Addr} {xs : List V} (I : Inv X pins σ H s) (h : SqB X.K k H a xs) : ∃ its : List Value, Vals xs its ∧ IsB k s.heap a its.toArray ∧ a < s.heap.objs.size := by
  cases k
  · obtain ⟨its, rv, p, _⟩ := I.tuple h
    obtain ⟨o, ho, _⟩ := id p
    exact ⟨its, rv, p, Heap.lt_size ho⟩
  · obtain ⟨its, rv, p, _⟩ := I.list h
    exact ⟨its, rv, p.isList, p.lt⟩
theorem inj_B {k : Bool} {a : Addr} {xs ys : List V} (I : Inv X pins σ H s) (h : SqB X.K k H a xs) (h' : SqB X.K k H a ys) : xs = ys := by
  cases k
  · exact I.tuple_inj h h'
  · exact I.list_inj h h'
end
/-- the items in new pairs with their numbers -/
def IteB (K : PySem.W.Frag) (k : Bool) (a : Addr) : It :=
  ⟨fun i H => ∃ (xs : List V) (x : V), SqB K k H a xs ∧ xs[i]? = some x, fun i H v H' => ∃ T x, v = .ref T ∧ H T = none ∧ H' = upd H T (.tup [.int (i : Nat), x]) ∧ ∀ xs, SqB K k H a xs → xs[i]? = some x, fun i H => ∃ xs : List V, SqB K k H a xs ∧ xs.length = i⟩
/-- enumerate's record with its list's iterator, ahead of the i-th turn -/
structure EnumAt (k : Bool) (a e it : Addr) (i : Nat) (h : Heap) : Prop where
  rec_ : ∃ old, IsEnum h e it ((i : Nat) : Int) old
  inner : ItB k h it a i
  ne : e ≠ it
  ai : a ≠ it
  ea : e ≠ a
theorem EnumAt.seen {k : Bool} {a e it : Addr} {i : Nat} {h : Heap} (t : EnumAt k a e it i h) : ∀ c ∈ [e, it], Seen h c := on_cons (t.rec_.elim fun _ q => seen_fields q) (on_cons t.inner.obj on_nil)
theorem turn_enumB {P : Program} {w : World} {K : PySem.W.Frag} {elts : List Expr} {kk : Nat} {tpos : Pos} (k : Bool) (a e it : Addr) : Turn P w K (.Tuple elts kk tpos) (IteB K k a) [e, it] e (EnumAt k a e it) where
  mem := List.mem_cons_self
  obj _ _ t := t.seen
  keep _ _ _ t st := ⟨t.rec_.imp fun _ => st _ List.mem_cons_self _, t.inner.at (st _ (by simp)), t.ne, t.ai, t.ea⟩
  self A i s Q E t q := t.rec_.elim fun _ z => wpAny_pyIter_enum z q
  item X hP hw hK hc i pins s σ H E I hf t hg := by
    subst hP hw hK
    have ⟨xs, x, hq, hx⟩ := hg
    have ⟨its, rv, p, _⟩ := inv_B I hq
    have ⟨li, val⟩ := drawn rv hx
    have ⟨old, z⟩ := t.rec_
    apply wpAny_pyNext_enum_itemD (drawsB k (show X.A.in1.handled = none from I.ok.hd hc) it a t.ai its.toArray) z ⟨t.inner, p⟩ li t.ne (by simp [t.ne, t.ea])
    intro u h1 tk hu out inner top _ k1
    refine ⟨_, rfl, wpAny_letOwnedTupleGo_enum (s := { s with heap := h1, toks := tk + 1 }) out fun h2 z2 k2 => ?_⟩
    have below : e ≠ s.heap.objs.size := Nat.ne_of_lt (Heap.lt_size z)
    have ⟨I2, fresh, off⟩ := tuple_made (t' := tk + 1) (xs := [.int (i : Nat), x]) I hf t.seen (fun c o out q => by
      simp only [List.mem_cons, List.not_mem_nil, or_false, not_or] at out
      exact (k2.2 c out.1).trans (k1 c o out.1 out.2 q)) ((k2.2 _ below.symm).trans top) (.cons ⟨tk, rfl⟩ (.cons (val u hu) .nil)) (show 2 ≤ sizeLine by decide)
    exact ⟨.ref _, _, I2, rfl, ⟨_, x, rfl, fresh, rfl, fun ys hy => inj_B I hq hy ▸ hx⟩, ⟨⟨u, by rw [Int.natCast_add]; exact z2⟩, inner.1.at fun o q => (k2.2 it t.ne.symm).trans q, t.ne, t.ai, t.ea⟩, off⟩
  done X hP hw hK hc i pins s σ H E I hf t hg := by
    subst hP hw hK
    have ⟨xs, hq, hx⟩ := hg
    have ⟨its, rv, p, _⟩ := inv_B I hq
    have n : its.toArray.size = i := by rw [List.size_toArray, ← rv.length, hx]
    subst n
    have ⟨old, z⟩ := t.rec_
    have f := hf it (by simp)
    exact wpAny_pyNext_enum_endD (drawsB k (show X.A.in1.handled = none from I.ok.hd hc) it a t.ai its.toArray) z ⟨t.inner, p⟩ fun h1 but => ⟨rfl, I.turned (t' := s.toks) but f.1 f.2.1 f.2.2.2.1 f.2.2.2.2.1 f.2.2.2.2.2⟩
/-- the heap behind enumerate(v): the iterator that v begins with, then enumerate's record -/
def enumHeap (h : Heap) (o : Obj) : Heap := (h.push o).push { cls := .type "enumerate", data := .fields #[.none, .bool false, .ref h.objs.size, rawInt 0, .none, .none] }
set_option maxHeartbeats 1000000 in
theorem meets_enumB {v : Value} {o : Obj} {H : Heap → Prop} (B : Begins v o H) :
    Meets (Builtin.«enumerate.__new__» ⟨[.type "enumerate", v], []⟩) (fun _ R s => H s.heap ∧ R (.ok (.ret (.ref (s.heap.push o).objs.size))) { s with heap := enumHeap s.heap o }) := by
  apply Meets.of_wp
  rintro prog w A R ⟨hp, gens, drawn, toks, os⟩ ⟨there, post⟩
  have self := sub_enumerate
  have starts {A' : Around} {E : Value → Shared → Prop} {Q : Value → Shared → Prop} : Q (.ref hp.objs.size) ⟨hp.push o, gens, drawn, toks, os⟩ → wpAny (model prog w) A' (pyIter v) Q E ⟨hp, gens, drawn, toks, os⟩ := B.iter prog w _ _ _ _ there
  wp_walk using starts
  apply wpAny_stack_any
  intro st
  apply wpAny_pure
  split
  case h_1 k _ _ _ _ _ => cases k == Value.type "enumerate" <;> (wp_walk using starts; exact ⟨_, rfl, post⟩)
  case h_2 => wp_walk using starts; exact ⟨_, rfl, post⟩
theorem enumB_begins {prog : Program} {w : World} {A : Around} {E : Value → Shared → Prop} {s : Shared} {v : Value} {o : Obj} {H : Heap → Prop} {Q : Value → Shared → Prop} (B : Begins v o H) (there : H s.heap)
    (h : ∀ h', IsEnum h' (s.heap.objs.size + 1) s.heap.objs.size 0 .none → h'.get? s.heap.objs.size = some o → h'.objs.size = s.heap.objs.size + 2 → (∀ c u, s.heap.get? c = some u → h'.get? c = some u) → Q (.ref (s.heap.objs.size + 1)) { s with heap := h' }) :
    wpAny (model prog w) A (call (.type "enumerate") [v]) Q E s := by
  have n1 : (s.heap.push o).objs.size = s.heap.objs.size + 1 := Heap.size_push ..
  have inner : (enumHeap s.heap o).get? s.heap.objs.size = some o := Heap.get?_push_of_some _ (Heap.get?_push_size _ B.free)
  have outer : IsEnum (enumHeap s.heap o) (s.heap.objs.size + 1) s.heap.objs.size 0 .none := n1 ▸ Heap.get?_push_size (s.heap.push o) rfl
  have post := h _ outer inner ((Heap.size_push ..).trans (by rw [n1])) fun c u e => Heap.get?_push_of_some _ (Heap.get?_push_of_some _ e)
  rw [← n1] at post outer
  exact callType_new F.called_enumerate (by decide) (F.typeCall_enumerate_1 _) (F.newCall_enumerate_1 _) (fun obj => F.args_object_init_2 obj _) F.entry_enumerate_new (meets_enumB B) ⟨there, ⟨_, outer, rfl⟩, post⟩
def iEnumB (K : PySem.W.Frag) (ta : TA) : TI := fun σ H R => ta σ H fun vs H1 => ∃ k a xs, vs = [.ref a] ∧ SqB K k H1 a xs ∧ R (IteB K k a) H1
theorem pi_enumB {X : Cx} {e : Expr} {ta : TA} {p pos tpos : Pos} {elts : List Expr} {kk : Nat} (hg : Gl X "enumerate") (hm : X.mg "enumerate" = none) (ha : PA X [e] ta) (hs : starEach [e] X.env = [(false, eval e X.env)] := by rfl) :
    PI X (.Tuple elts kk tpos) (.Call (.Name "enumerate" p) [e] [] pos) (iEnumB X.K ta) := by
  constructor
  intro pins s σ H R I h
  apply Call_ (ld_blt I hg hm boot_enumerate (PyProof.Rows.callWith_type1 (thn (ha.run pos pins s σ H _ I h) ?_) hs rfl))
  intro us s1 ⟨vs, H1, I1, r1, k, a, xs, ex, hq, q⟩
  subst ex
  match us, r1 with
  | [u], .cons r .nil =>
    have r : u = .ref a := r
    subst r
    have ⟨its, _, lies, lt⟩ := inv_B I1 hq
    apply enumB_begins (begins_B k a its.toArray) lies
    intro h' z inner _ kept
    have t : EnumAt k a (s1.heap.objs.size + 1) s1.heap.objs.size 0 h' := ⟨⟨_, z⟩, .new inner, Nat.succ_ne_self _, Nat.ne_of_lt lt, (Nat.ne_of_lt (Nat.lt_succ_of_lt lt)).symm⟩
    exact wpAny_pyIter_enum z ⟨_, _, _, _, H1, rfl, I1.kept (t' := s1.toks) kept, turn_enumB k a _ _, t, new_fp I1 (by simp), q⟩
end Mi

set_option Elab.async false
set_option linter.all false
set_option maxRecDepth 100000
set_option maxHeartbeats 2000000
/-! Mi: walks of two lists or tuples at once; the sources. -/
namespace Mi
open PySem L2 PyProof.Rows
def ItzB (K : PySem.W.Frag) (k l : Bool) (a b : Addr) : It :=
  ⟨fun i H => ∃ (xs ys : List V) (x y : V), SqB K k H a xs ∧ SqB K l H b ys ∧ xs[i]? = some x ∧ ys[i]? = some y,
    fun i H v H' => ∃ T x y, v = .ref T ∧ H T = none ∧ H' = upd H T (.tup [x, y]) ∧ (∀ xs, SqB K k H a xs → xs[i]? = some x) ∧ ∀ ys, SqB K l H b ys → ys[i]? = some y,
    fun i H => ∃ xs ys : List V, SqB K k H a xs ∧ SqB K l H b ys ∧ i ≤ xs.length ∧ i ≤ ys.length ∧ (i = xs.length ∨ i = ys.length)⟩
/-- zip's record z with its two tuples (the iterators, the last pair) and the two iterators, ahead of the i-th turn -/
structure ZipAt (k l : Bool) (a b z TI TO i1 i2 : Addr) (i : Nat) (h : Heap) : Prop where
  rec_ : IsZip h z TI TO .none
  its : IsTupOf2 h TI (.ref i1) (.ref i2)
  last : ∃ x y, IsTupOf2 h TO x y
  fst : ItB k h i1 a i
  snd : ItB l h i2 b i
theorem ZipAt.seen {k l : Bool} {a b z TI TO i1 i2 : Addr} {i : Nat} {h : Heap} (t : ZipAt k l a b z TI TO i1 i2 i h) : ∀ c ∈ [z, TI, TO, i1, i2], Seen h c :=
  on_cons (seen_fields t.rec_) (on_cons (seen_seq t.its) (on_cons (t.last.elim fun _ q => q.elim fun _ q => seen_seq q) (on_cons t.fst.obj (on_cons t.snd.obj on_nil))))
theorem turn_zipB {P : Program} {w : World} {K : PySem.W.Frag} {elts : List Expr} {kk : Nat} {tpos : Pos} {k l : Bool} {a b z TI TO i1 i2 : Addr} (D : ZipSep2 z TI TO i1 i2 [i1, a] [i2, b]) (n1 : a ≠ i1) (n2 : b ≠ i2) :
    Turn P w K (.Tuple elts kk tpos) (ItzB K k l a b) [z, TI, TO, i1, i2] z (ZipAt k l a b z TI TO i1 i2) where
  mem := List.mem_cons_self
  obj _ _ t := t.seen
  keep _ _ _ t st := ⟨st z (by simp) _ t.rec_, st TI (by simp) _ t.its, t.last.imp fun _ q => q.imp fun _ q => st TO (by simp) _ q, t.fst.at (st i1 (by simp)), t.snd.at (st i2 (by simp))⟩
  self _ _ _ _ _ t q := wpAny_pyIter_zip t.rec_ q
  item X hP hw hK hc i pins s σ H E I hf t hg := by
    subst hP hw hK
    have ⟨xs, ys, x, y, qx, qy, ex, ey⟩ := hg
    have ⟨us, rx, px, _⟩ := inv_B I qx
    have ⟨vs, ry, py, _⟩ := inv_B I qy
    have ⟨lx, vx⟩ := drawn rx ex
    have ⟨ly, vy⟩ := drawn ry ey
    have calm : X.A.in1.handled = none := I.ok.hd hc
    have ⟨_, _, out⟩ := t.last
    apply wpAny_pyNext_zipD2_item D (drawsB k calm i1 a n1 us.toArray) (drawsB l calm i2 b n2 vs.toArray) t.rec_ t.its out ⟨t.fst, px⟩ ⟨t.snd, py⟩ lx ly
    intro u v h1 tk hu hv zz zo f1 f2 top _ k1
    refine ⟨_, rfl, wpAny_letOwnedTupleGo_zip (s := { s with heap := h1, toks := tk }) zz fun h2 z2 k2 => ?_⟩
    have below : s.heap.objs.size ≠ z := (Nat.ne_of_lt (Heap.lt_size t.rec_)).symm
    have ⟨I2, fresh, off⟩ := tuple_made (t' := tk) (xs := [x, y]) I hf t.seen (fun c o out q => by
      simp only [List.mem_cons, List.not_mem_nil, or_false, not_or] at out
      exact (k2.2 c out.1).trans (k1 c o out.1 out.2.2.1 out.2.2.2.1 out.2.2.2.2 q)) ((k2.2 _ below).trans top) (.cons (vx u hu) (.cons (vy v hv) .nil)) (show 2 ≤ sizeLine by decide)
    refine ⟨.ref _, _, I2, rfl, ⟨_, x, y, rfl, fresh, rfl, fun l q => inj_B I qx q ▸ ex, fun l q => inj_B I qy q ▸ ey⟩, ⟨z2, ?_, ⟨u, v, (k2.2 _ D.TOz).trans zo⟩, ?_, ?_⟩, off⟩
    · exact (k2.2 _ D.TIz).trans (k1 _ _ D.TIz D.TITO D.TIi1 D.TIi2 t.its)
    · exact f1.1.at fun _ => (k2.2 _ D.zi1.symm).trans
    · exact f2.1.at fun _ => (k2.2 _ D.zi2.symm).trans
  done X hP hw hK hc i pins s σ H E I hf t hg := by
    subst hP hw hK
    have ⟨xs, ys, qx, qy, bx, by_, stop⟩ := hg
    have ⟨us, rx, px, _⟩ := inv_B I qx
    have ⟨vs, ry, py, _⟩ := inv_B I qy
    have calm : X.A.in1.handled = none := I.ok.hd hc
    have ⟨_, _, out⟩ := t.last
    rw [rx.length] at bx stop
    rw [ry.length] at by_ stop
    apply wpAny_pyNext_zipD2_end D (drawsB k calm i1 a n1 us.toArray) (drawsB l calm i2 b n2 vs.toArray) t.rec_ t.its out ⟨t.fst, px⟩ ⟨t.snd, py⟩ bx by_ stop
    intro h1 tk k1
    refine ⟨rfl, I.turnedL (t' := tk) (fun c o out q => ?_) hf⟩
    simp only [List.mem_cons, List.not_mem_nil, or_false, not_or] at out
    exact k1 c o out.1 out.2.2.1 out.2.2.2.1 out.2.2.2.2 q
def iZipB (K : PySem.W.Frag) (ta : TA) : TI := fun σ H R => ta σ H fun vs H1 => ∃ k l a b xs ys, vs = [.ref a, .ref b] ∧ SqB K k H1 a xs ∧ SqB K l H1 b ys ∧ R (ItzB K k l a b) H1
theorem pi_zipB {X : Cx} {e e2 : Expr} {ta : TA} {p pos tpos : Pos} {elts : List Expr} {kk : Nat} (hg : Gl X "zip") (hm : X.mg "zip" = none) (ha : PA X [e, e2] ta)
    (hs : starEach [e, e2] X.env = (false, eval e X.env) :: starEach [e2] X.env := by rfl) (hpl : (backTo pos (starEach [e2] X.env)).any (·.1) = false := by rfl) :
    PI X (.Tuple elts kk tpos) (.Call (.Name "zip" p) [e, e2] [] pos) (iZipB X.K ta) := by
  constructor
  intro pins s σ H R I h
  apply Call_ (ld_blt I hg hm PyProof.Rows.boot_zip (PyProof.Rows.callWith_type1 (thn (ha.run pos pins s σ H _ I h) ?_) hs hpl))
  intro us s1 ⟨vs, H1, I1, r1, k, l, a, b, xs, ys, ex, qx, qy, q⟩
  subst ex
  match us, r1 with
  | [u, v], .cons ru (.cons rv .nil) =>
    have ru : u = .ref a := ru
    have rv : v = .ref b := rv
    subst ru rv
    have ⟨_, _, pa, la⟩ := inv_B I1 qx
    have ⟨_, _, pb, lb⟩ := inv_B I1 qy
    apply zip_begins2 (begins_B k a _) (begins_B l b _) pa pb
    intro h' zz zi zo f1 f2 _ kept
    have S := zip_sep2 (N := s1.heap.objs.size) (fp1 := [a]) (fp2 := [b]) (on_cons la on_nil) (on_cons lb on_nil)
    exact wpAny_pyIter_zip zz ⟨_, _, _, _, H1, rfl, I1.kept (t' := s1.toks) kept, turn_zipB S (Nat.ne_of_lt la) (Nat.ne_of_lt (Nat.lt_succ_of_lt lb)), ⟨zz, zi, ⟨_, _, zo⟩, .new f1, .new f2⟩, new_fp I1 (by simp), q⟩
section
variable {c : Cn} {W : XW} {g : G} {σ : L2.St} {H : Hp} {α β : Type} {w w0 w1 : Wd} {s s1 : Sta} {X : Cx} {tg e : Expr}
theorem rep_B {d : D} {ds : List D} {v : V} {F : Addr → Prop} {H : Hp} (e : lstD d = some ds) (r : Rep c F H d v) : ∃ a k, v = .ref a ∧ ∃ vs, SqB c.K k H a vs ∧ Reps c F H ds vs := by
  cases r with
  | @tup a o vs ds' f h n r =>
    cases e
    exact ⟨a, false, rfl, vs, sqT h, r⟩
  | @lst a vs ds' f h r =>
    cases e
    exact ⟨a, true, rfl, vs, SqL.of h, r⟩
  | _ => cases e
/-- the kind is the datum's -/
def kB : D → Bool
  | .lst _ => true
  | _ => false
theorem rep_B' {d : D} {ds : List D} {v : V} {F : Addr → Prop} {H : Hp} (e : lstD d = some ds) (r : Rep c F H d v) : ∃ a, v = .ref a ∧ ∃ vs, SqB c.K (kB d) H a vs ∧ Reps c F H ds vs := by
  cases r with
  | @tup a o vs ds' f h n r =>
    cases e
    exact ⟨a, rfl, vs, sqT h, r⟩
  | @lst a vs ds' f h r =>
    cases e
    exact ⟨a, rfl, vs, SqL.of h, r⟩
  | _ => cases e
theorem enumD_get : ∀ {ds : List D} {k i : Nat}, (enumD k ds)[i]? = (ds[i]?).map fun d => .tup [.int ((k + i : Nat) : Int), d]
  | [], _, _ => by simp [enumD]
  | d :: ds, k, 0 => by simp [enumD]
  | d :: ds, k, i + 1 => by
    have e : (k + 1 + i : Nat) = k + (i + 1) := by omega
    simp only [enumD, List.getElem?_cons_succ]
    rw [enumD_get, e]
theorem enumD_length : ∀ {ds : List D} {k : Nat}, (enumD k ds).length = ds.length
  | [], _ => rfl
  | _ :: ds, k => congrArg (· + 1) enumD_length
theorem zipD_get : ∀ {xs ys : List D} {i : Nat} {d : D}, (zipD xs ys)[i]? = some d → ∃ a b, xs[i]? = some a ∧ ys[i]? = some b ∧ d = .tup [a, b]
  | [], ys, i, d, h => by simp [zipD] at h
  | x :: xs, [], i, d, h => by simp [zipD] at h
  | x :: xs, y :: ys, 0, d, h => by
    simp [zipD] at h
    exact ⟨x, y, rfl, rfl, h.symm⟩
  | x :: xs, y :: ys, i + 1, d, h => by
    simp only [zipD, List.getElem?_cons_succ] at h ⊢
    exact zipD_get h
theorem zipD_length : ∀ {xs ys : List D}, (zipD xs ys).length = min xs.length ys.length
  | [], ys => by simp [zipD]
  | x :: xs, [] => by simp [zipD]
  | x :: xs, y :: ys => by
    simp only [zipD, List.length_cons, zipD_length]
    omega
theorem it_enumB {a : Addr} {d : D} {ds : List D} (e : lstD d = some ds) : ItOk c (IteB c.K (kB d) a) (enumD 0 ds) true (fun w => Rep c w.F w.H d (.ref a)) where
  perF := fun w w' h f hH => h.mono f hH
  go := fun w i h l => by
    obtain ⟨a', ea, vs, hv, r⟩ := rep_B' e h
    cases ea
    rw [enumD_length] at l
    obtain ⟨v, e, _⟩ := r.get (List.getElem?_eq_getElem l)
    exact ⟨vs, v, hv, e⟩
  stop := fun w h => by
    obtain ⟨a', ea, vs, hv, r⟩ := rep_B' e h
    cases ea
    exact ⟨vs, hv, by rw [enumD_length]; exact r.length.symm⟩
  yld := fun w i x H' d' fr σ h S e1 y => by
    obtain ⟨a', ea, vs, hv, r⟩ := rep_B' e h
    cases ea
    rw [if_pos rfl]
    rw [enumD_get, Option.map_eq_some_iff] at e1
    obtain ⟨d0, e2, rfl⟩ := e1
    obtain ⟨v, e3, rv⟩ := r.get e2
    obtain ⟨T, x0, rfl, hT, rfl, all⟩ := y
    rw [all vs hv] at e3
    cases e3
    refine ⟨T, _, _, _, _, rfl, rfl, hT, rfl, ?_, rv⟩
    rw [Nat.zero_add]
    exact .int _
theorem it_zipB {a b : Addr} {d1 d2 : D} {xs ys : List D} (e1 : lstD d1 = some xs) (e2 : lstD d2 = some ys) : ItOk c (ItzB c.K (kB d1) (kB d2) a b) (zipD xs ys) true (fun w => Rep c w.F w.H d1 (.ref a) ∧ Rep c w.F w.H d2 (.ref b)) where
  perF := fun w w' h f hH => ⟨h.1.mono f hH, h.2.mono f hH⟩
  go := fun w i h l => by
    obtain ⟨a', ea, vs, hv, r⟩ := rep_B' e1 h.1
    cases ea
    obtain ⟨b', eb, us, hu, r2⟩ := rep_B' e2 h.2
    cases eb
    rw [zipD_length] at l
    have l1 : i < xs.length := by omega
    have l2 : i < ys.length := by omega
    obtain ⟨v, f1, _⟩ := r.get (List.getElem?_eq_getElem l1)
    obtain ⟨u, f2, _⟩ := r2.get (List.getElem?_eq_getElem l2)
    exact ⟨vs, us, v, u, hv, hu, f1, f2⟩
  stop := fun w h => by
    obtain ⟨a', ea, vs, hv, r⟩ := rep_B' e1 h.1
    cases ea
    obtain ⟨b', eb, us, hu, r2⟩ := rep_B' e2 h.2
    cases eb
    have q1 := r.length
    have q2 := r2.length
    exact ⟨vs, us, hv, hu, by rw [zipD_length]; omega, by rw [zipD_length]; omega, by rw [zipD_length]; omega⟩
  yld := fun w i x H' d' fr σ h S e3 y => by
    obtain ⟨a', ea, vs, hv, r⟩ := rep_B' e1 h.1
    cases ea
    obtain ⟨b', eb, us, hu, r2⟩ := rep_B' e2 h.2
    cases eb
    rw [if_pos rfl]
    obtain ⟨p, q, g1, g2, rfl⟩ := zipD_get e3
    obtain ⟨v, f1, rv⟩ := r.get g1
    obtain ⟨u, f2, ru⟩ := r2.get g2
    obtain ⟨T, x0, y0, rfl, hT, rfl, all1, all2⟩ := y
    rw [all1 vs hv] at f1
    rw [all2 us hu] at f2
    cases f1
    cases f2
    exact ⟨T, _, _, _, _, rfl, rfl, hT, rfl, rv, ru⟩
theorem src_enum {ce : CE} {R : It → Hp → Prop} (h : tI (c := c) (W := W) (evI g (.enum ce)) true σ H R) : iEnumB c.K (tCons (tE c W (evE g ce)) tNil) σ H R := by
  obtain ⟨w, s, rfl, S, h⟩ := h
  unfold evI at h
  show tE c W (evE g ce) σ w.H (fun x H1 => ∃ k a xs, [x] = [.ref a] ∧ SqB c.K k H1 a xs ∧ R (IteB c.K k a) H1)
  refine tE.bind S h fun r s1 w1 v x S1 rr G => ?_
  have G : Go c W σ (M.opt (keepR r) >>= fun d => _) w s1 _ := G
  obtain ⟨d, e1, G⟩ := G.optB
  cases e2 : lstD d with
  | none => rw [e2] at G; exact (G.of_bad rfl).elim
  | some ds =>
    rw [e2] at G
    obtain ⟨bs, b1, b2, b3⟩ := rr.kept x S1 e1
    obtain ⟨a, ev, vs, hv, _⟩ := rep_B' e2 b3
    subst ev
    exact ⟨kB d, a, vs, rfl, hv, Go.of_ok G (a := enumD 0 ds) (s1 := s1) rfl x S1 w1 (w1.keep bs) _ _ (x.keep b1) (S1.keep b2) (it_enumB e2) b3⟩
theorem src_zip {ca cb : CE} {R : It → Hp → Prop} (h : tI (c := c) (W := W) (evI g (.zip ca cb)) true σ H R) : iZipB c.K (tCons (tE c W (evE g ca)) (tCons (tE c W (evE g cb)) tNil)) σ H R := by
  obtain ⟨w, s, rfl, S, h⟩ := h
  unfold evI at h
  show tE c W (evE g ca) σ w.H (fun x H1 => tE c W (evE g cb) σ H1 fun y H2 => ∃ k l a b xs ys, [x, y] = [.ref a, .ref b] ∧ SqB c.K k H2 a xs ∧ SqB c.K l H2 b ys ∧ R (ItzB c.K k l a b) H2)
  refine tE.bind S h fun r s1 w1 x0 x S1 rr G => ?_
  have G : Go c W σ (M.opt (keepR r) >>= fun d => _) w s1 _ := G
  obtain ⟨d, e1, G⟩ := G.optB
  refine ⟨w1, s1, rfl, S1, (G.bind.up x).imp fun r2 s2 w2 x2 S2 G2 u rr2 => ?_⟩
  have G2 : Go c W σ (M.opt (keepR r2) >>= fun d => _) w s2 _ := G2
  obtain ⟨d2, e2, G2⟩ := G2.optB
  cases f1 : lstD d with
  | none => rw [f1] at G2; exact (G2.of_bad rfl).elim
  | some xs =>
    cases f2 : lstD d2 with
    | none => rw [f1, f2] at G2; exact (G2.of_bad rfl).elim
    | some ys =>
      rw [f1, f2] at G2
      have RS : RRs c w w2 σ [r, r2] [x0, u] := .cons (rr.step S1 x2) ((RRs.cons rr2 .nil).weak x)
      obtain ⟨bs, b1, b2, b3⟩ := RS.kept (x.trans x2) S2 (ds := [d, d2]) (by simp [keepAll, e1, e2])
      cases b3 with
      | cons r1 b3 =>
        cases b3 with
        | cons r2' _ =>
          obtain ⟨a, ev, vs, hv, _⟩ := rep_B' f1 r1
          obtain ⟨b, eu, us, hu, _⟩ := rep_B' f2 r2'
          subst ev eu
          exact ⟨kB d, kB d2, a, b, vs, us, rfl, hv, hu, Go.of_ok G2 (a := zipD xs ys) (s1 := s2) rfl (x.trans x2) S2 w2 (w2.keep bs) _ _ ((x.trans x2).keep b1) (S2.keep b2) (it_zipB f1 f2) ⟨r1, r2'⟩⟩
end
end Mi

set_option Elab.async false
set_option linter.all false
set_option maxRecDepth 100000
set_option maxHeartbeats 400000
/-! Mi: match .. : case [a, b] if ..: case _: -/
namespace L2
open PySem PyProof.Rows
def NoSq (H : Hp) (x : V) : Prop := x = .non ∨ (∃ b, x = .bl b) ∨ (∃ i, x = .int i) ∨ (∃ z, x = .str z) ∨ ∃ a kvs, x = .ref a ∧ H a = some (.dK kvs)
theorem NoSq.flag {X : Cx} {pins : List (Addr × Obj)} {σ : L2.St} {H : Hp} {s : Shared} {x : V} {u : Value} {A : Around} {E : Value → Shared → Prop} {Q : Bool → Shared → Prop} (n : NoSq H x) (I : Inv X pins σ H s) (r : RelV x u) (h : Q false s) :
    wpAny (model X.prog X.w) A (collectionFlag true u) Q E s := by
  rcases n with rfl | ⟨b, rfl⟩ | ⟨i, rfl⟩ | ⟨z, rfl⟩ | ⟨a, kvs, rfl, e⟩
  · cases r
    exact wpAny_collectionFlag (T := "NoneType") rfl flag_seq_None h
  · cases r
    exact wpAny_collectionFlag (T := "bool") rfl flag_seq_bool h
  · obtain ⟨k, rfl⟩ := r
    exact wpAny_collectionFlag (T := "int") rfl flag_seq_int h
  · obtain ⟨k, rfl⟩ := r
    exact wpAny_collectionFlag (T := "str") rfl flag_seq_str h
  · cases r
    obtain ⟨z, hs, vs, kv, o, es, ep, ho, hx, hdt, q⟩ := I.hok a _ e
    have hm : s.heap.DictAt (mixKind X.prog X.w) a vs ep := ⟨o, es, ho, hx, hdt, q⟩
    exact wpAny_collectionFlag (T := "dict") hm.dictOf.typeIs flag_seq_dict h
def tMseq2 (K : PySem.W.Frag) (te : TE) (i j : Nat) (tg : TT) (t1 t2 : TS) : TS := fun D σ H => te σ H fun x H1 =>
  (∃ a u v, x = .ref a ∧ SqT K H1 a [u, v] ∧ tg ((σ.set i (some u)).set j (some v)) H1 fun b H2 => if b = true then t1 D ((σ.set i (some u)).set j (some v)) H2 else t2 D ((σ.set i (some u)).set j (some v)) H2) ∨
  (∃ k a xs, x = .ref a ∧ Mi.SqB K k H1 a xs ∧ xs.length ≠ 2 ∧ t2 D σ H1) ∨ (NoSq H1 x ∧ t2 D σ H1)
theorem ps_mseq2 {X : Cx} {e g : Expr} {te : TE} {tg : TT} {t1 t2 : TS} {i j : Nat} {n1 n2 : Str} {q1 q2 q3 q4 pos : Pos} {b1 b2 : List Stmt} (hc : X.calm = true) (he : PE X e te) (hN : X.N.Nodup) (hi : X.N[i]? = some n1) (hj : X.N[j]? = some n2) (hx : Loc X.env.scope n1) (hy : Loc X.env.scope n2)
    (hg : PT X g tg) (h1 : PSs X b1 t1) (h2 : PSs X b2 t2) (hfi : X.fn n1 = true ∨ X.env.scope.names.lookup n1 = some .local) (hfj : X.fn n2 = true ∨ X.env.scope.names.lookup n2 = some .local) :
    PS X (.Match e [⟨.MatchSequence [.MatchAs none (some n1) q1, .MatchAs none (some n2) q2] q3, some g, b1⟩, ⟨.MatchAs none none q4, none, b2⟩] pos) (tMseq2 X.K te i j tg t1 t2) := by
  refine ⟨fun pins s σ H D I h => ?_⟩
  refine wpAny_Match (thn (he.run pins s σ H _ I h) fun v s1 ⟨x, H1, I1, r1, q⟩ => ?_)
  have rest : ∀ {σ' : L2.St} {H' : Hp} {s' : Shared}, Inv X pins σ' H' s' → t2 D σ' H' → wpAny (model X.prog X.w) X.A (matchCases [⟨.MatchAs none none q4, none, b2⟩] X.env v false) (SP X pins D) X.xe s' := fun {σ' H' s'} I' h' => by
    refine wpAny_matchCases_cons (wpAny_matchPattern_Capture ?_)
    exact assignInOrder_nil (h2.run pins s' σ' H' D I' h')
  refine wpAny_matchCases_cons ?_
  have fit : ∀ {n : Nat}, n ≤ sizeLine → ((n : Nat) : Int) < 2 ^ 63 := fun {n} z => by
    have : sizeLine < 2 ^ 63 := by decide
    omega
  rcases q with ⟨a, u, w, rfl, hq, q⟩ | ⟨k, a, xs, rfl, hq, hl, q⟩ | ⟨hn, q⟩
  · cases r1
    obtain ⟨its, rv, p, hz⟩ := I1.tuple hq
    cases rv with
    | cons ru rv =>
      cases rv with
      | cons rw' rv =>
        cases rv
        rename_i u1 w1
        refine matchSeq_tuple_hit p (fit (n := 2) (by decide)) rfl ?_
        have I2 : Inv X pins σ H1 { s1 with toks := s1.toks + 1 + 1 } := I1.kept (t' := s1.toks + 1 + 1) fun _ _ e => e
        have U := fun Q => @unpackItems_tuple X.prog X.w X.A X.xe { s1 with toks := s1.toks + 1 + 1 } a #[u1, w1] Q (I2.ok.hd hc) p
        refine U _ fun h' hx' => ?_
        have I3 : Inv X pins σ H1 { s1 with heap := h', toks := s1.toks + 1 + 1 } := I2.kept (t' := s1.toks + 1 + 1) fun b o e => hx' b o (Nat.ne_of_lt (Heap.lt_size e)) e
        refine wpAny_matchEach_cons (wpAny_matchPattern_Capture ?_)
        refine wpAny_matchEach_cons (wpAny_matchPattern_Capture ?_)
        refine wpAny_matchEach_nil ?_
        show wpAny _ _ (assignInOrder [fun v => bindName X.env n1 v, fun v => bindName X.env n2 v] [u1, w1]) _ _ _
        refine assignInOrder_cons (wpAny_bindName (store_ok I3 hN hi hx ru (fun s2 I4 => ?_) hfi))
        refine assignInOrder_cons (wpAny_bindName (store_ok I4 hN hj hy rw' (fun s3 I5 => assignInOrder_nil ?_) hfj))
        refine thn (hg.run pins s3 _ H1 _ I5 q) fun b s4 ⟨H2, I6, q2⟩ => ?_
        cases b with
        | true => exact h1.run pins s4 _ H2 D I6 q2
        | false => exact rest I6 q2
  · cases r1
    cases k
    · obtain ⟨its, rv, p, hz⟩ := I1.tuple hq
      have := rv.length
      exact matchSeq_tuple_miss p (fit (by simp only [List.size_toArray]; omega)) (by simp only [List.size_toArray, List.length_cons, List.length_nil]; omega) (rest (I1.kept (t' := s1.toks + 1 + 1) fun _ _ e => e) q)
    · obtain ⟨its, rv, p, hz⟩ := I1.list hq
      have := rv.length
      exact matchSeq_list_miss p.isList (fit (by simp only [List.size_toArray]; omega)) (by simp only [List.size_toArray, List.length_cons, List.length_nil]; omega) (rest (I1.kept (t' := s1.toks + 1 + 1) fun _ _ e => e) q)
  · refine wpAny_matchPattern_Sequence (hn.flag I1 r1 ?_)
    exact rest I1 q
end L2
namespace Mi
open PySem L2 PyProof.Rows
section
variable {c : Cn} {W : XW} {P : L2.St → Prop} {g : G} {σ : L2.St} {H : Hp} {w w0 w1 : Wd} {s s1 : Sta}
theorem s_mseq {i j k : Nat} {gd : CT} {b e : CB} {D : Ends} (hP : ∀ σ σ', Same [j, k] σ σ' → P σ → P σ') (h : tS c W P (evS g (.mseq i [j, k] gd b e)) D σ H) :
    tMseq2 c.K (tVar i) j k (tT c W (evT g gd)) (tS c W P (evB g b)) (tS c W P (evB g e)) D σ H := by
  obtain ⟨p, w, s, rfl, S, h⟩ := h
  unfold evS at h
  obtain ⟨x, e1, G⟩ := h.getB
  cases x with
  | emp => exact (G.of_bad rfl).elim
  | ow d sub => exact (G.of_bad rfl).elim
  | fz d =>
    obtain ⟨v, ev, r⟩ := S.rel.getF e1
    refine ⟨v, ev, ?_⟩
    have els : ∀ {m : M Fl}, GoS c W P m w s (fun f s' w' σ' => fin c D w f s' w' σ') → m = evB g e → tS c W P (evB g e) D σ w.H := fun {m} G e0 => ⟨p, w, s, rfl, S, by rw [← e0]; exact G⟩
    cases d with
    | tup ds =>
      cases r with
      | @tup a o vs _ f hh n r =>
        have G : GoS c W P (if ds.length = 2 then asgAll [j, k] ds >>= fun _ => evT g gd >>= fun t => (if t = true then evB g b else evB g e) else evB g e) w s _ := G
        by_cases hl : ds.length = 2
        · rw [if_pos hl] at G
          match ds, r, hl with
          | [d1, d2], .cons (v := v1) r1 (.cons (v := v2) r2 .nil), _ =>
            have N : gNms [j, k] [v1, v2] σ w.H (fun σ2 H2 => tT c W (evT g gd) σ2 H2 fun t H3 => if t = true then tS c W P (evB g b) D σ2 H3 else tS c W P (evB g e) D σ2 H3) :=
              nms_go (Ext.refl w) S (.cons r1 (.cons r2 .nil)) G fun s' w' σ' eH x1 x2 S' sm G' => by
                have p' := hP _ _ sm p
                refine tT.stm' p' x1 S' G' fun t s2 w2 x3 S2 G2 => ?_
                cases t with
                | true => exact ⟨p', w2, s2, rfl, S2, ((G2.eqM rfl).up (x1.trans x3)).imp fun f s3 w3 σ3 _ _ _ z => z.weak (x1.trans x3)⟩
                | false => exact ⟨p', w2, s2, rfl, S2, ((G2.eqM rfl).up (x1.trans x3)).imp fun f s3 w3 σ3 _ _ _ z => z.weak (x1.trans x3)⟩
            obtain ⟨_, _, f1, _, _, f2, _, q⟩ := N
            cases f1
            cases f2
            exact .inl ⟨a, v1, v2, rfl, sqT hh, q⟩
        · rw [if_neg hl] at G
          refine .inr (.inl ⟨false, a, vs, rfl, sqT hh, ?_, els G rfl⟩)
          rw [← r.length]
          exact hl
    | lst ds =>
      cases r with
      | @lst a vs _ f hh r =>
        have G : GoS c W P (if ds.length = 2 then M.bad else evB g e) w s _ := G
        by_cases hl : ds.length = 2
        · rw [if_pos hl] at G
          exact (G.of_bad rfl).elim
        · rw [if_neg hl] at G
          refine .inr (.inl ⟨true, a, vs, rfl, SqL.of hh, ?_, els G rfl⟩)
          rw [← r.length]
          exact hl
    | non => cases r; exact .inr (.inr ⟨.inl rfl, els G rfl⟩)
    | bl z => cases r; exact .inr (.inr ⟨.inr (.inl ⟨_, rfl⟩), els G rfl⟩)
    | int z => cases r; exact .inr (.inr ⟨.inr (.inr (.inl ⟨_, rfl⟩)), els G rfl⟩)
    | str z => cases r; exact .inr (.inr ⟨.inr (.inr (.inr (.inl ⟨_, rfl⟩))), els G rfl⟩)
    | dic z =>
      cases r with
      | dic f hh r => exact .inr (.inr ⟨.inr (.inr (.inr (.inr ⟨_, _, rfl, hh⟩))), els G rfl⟩)
    | _ => exact (G.of_bad rfl).elim
end
end Mi

set_option Elab.async false
set_option linter.all false
set_option maxRecDepth 100000
set_option maxHeartbeats 400000
/-! Mi: what a node's shape decides. -/
namespace Mi
open PySem L2 PyProof.Rows
def isComp : Expr → Bool
  | .ListComp .. => true
  | .SetComp .. => true
  | .DictComp .. => true
  | _ => false
theorem swaps_plain {e : Expr} {t : Option Expr} {l : Nat} {env : Env} (h : isComp e = false) : swapsWith e t l env = pure false := by
  cases e <;> first | rfl | exact (Bool.noConfusion h)
theorem swapsSole_plain {e t : Expr} {l : Nat} {env : Env} (h : isComp e = false) : swapsWithSole [t] e l env = pure false := swaps_plain h
def isSt : Expr → Bool
  | .Starred .. => true
  | _ => false
theorem star_cons {e : Expr} {r : List Expr} {env : Env} (h : isSt e = false) : starEach (e :: r) env = (false, eval e env) :: starEach r env := by
  cases e <;> first | rfl | exact (Bool.noConfusion h)
theorem assign_cons {e : Expr} {r : List Expr} {env : Env} (h : isSt e = false) : assignEach (e :: r) env = (false, assign e env) :: assignEach r env := by
  cases e <;> first | rfl | exact (Bool.noConfusion h)
theorem assign_map {e : Expr} {r : List Expr} {env : Env} (h : isSt e = false) : (assignEach (e :: r) env).map (·.2) = assign e env :: (assignEach r env).map (·.2) := by
  rw [assign_cons h]; rfl
theorem assign_len {env : Env} : ∀ {es : List Expr}, es.all (fun e => !isSt e) = true → (assignEach es env).length = es.length ∧ (assignEach es env).findIdx? (·.1) = none
  | [], _ => ⟨rfl, rfl⟩
  | e :: es, h => by
    rw [List.all_cons, Bool.and_eq_true] at h
    have h1 : isSt e = false := by
      have := h.1
      cases q : isSt e
      · rfl
      · rw [q] at this; cases this
    obtain ⟨a, b⟩ := assign_len (env := env) h.2
    rw [assign_cons h1]
    refine ⟨congrArg (· + 1) a, ?_⟩
    rw [List.findIdx?_cons, b]
    rfl
/-- no super() -/
def isSup : Expr → Bool
  | .Call (.Name id _) [] [] _ => id == "super"
  | _ => false
theorem base_plain {e : Expr} {a : Str} {env : Env} {w : Sem Value} (h : isSup e = false) : attributeBase e a env w = w := by
  unfold attributeBase
  split
  · rename_i id _ _
    have h : (id == "super") = false := h
    have h2 : (id != "super") = true := by simp [bne, h]
    simp only [h2, Bool.true_or, if_true]
  · rfl
def isTst : Expr → Bool
  | .UnaryOp .Not _ _ => true
  | .BoolOp .. => true
  | .IfExp .. => true
  | .Compare .. => true
  | _ => false
theorem true_plain {e : Expr} {env : Env} (h : isTst e = false) : ∀ whole, isTrue e env whole = (do let v ← whole; standAt e.pos; holding [v] (truthy v)) := by
  intro w
  cases e with
  | UnaryOp op x p => cases op <;> first | rfl | exact (Bool.noConfusion h)
  | _ => first | rfl | exact (Bool.noConfusion h)
def isSet : Expr → Bool
  | .Set .. => true
  | _ => false
theorem folded_plain {e : Expr} {env : Env} (h : isSet e = false) : ∀ x, foldedSetIterable e env x = pure x := by
  intro x
  cases e <;> first | rfl | exact (Bool.noConfusion h)
theorem behind_plain {e : Expr} {op : CmpOp} (h : isSet e = false) : behindInMarks op e = false := by
  cases e <;> first | rfl | exact (Bool.noConfusion h)
def isTup : Expr → Bool
  | .Tuple .. => true
  | .List .. => true
  | _ => false
theorem stores_plain {t e : Expr} {env : Env} (h : isTup t = false ∨ isTup e = false) : swappedStores [t] e env = pure none := by
  rcases h with h | h
  · cases t <;> first | rfl | exact (Bool.noConfusion h)
  · cases t <;> cases e <;> first | rfl | exact (Bool.noConfusion h)
end Mi

set_option Elab.async false
set_option linter.all false
set_option maxRecDepth 100000
set_option maxHeartbeats 1000000
/-! Mi: what is handed out only grows. -/
namespace Mi
open PySem L2
def outR {α : Type} : Res α → Option (List D)
  | .ok _ s => some s.out
  | .exc _ _ s => some s.out
  | .bad => none
def SameO {α : Type} (m : M α) : Prop := ∀ s o, outR (m s) = some o → o = s.out
def PreO {α : Type} (m : M α) : Prop := ∀ s o, outR (m s) = some o → s.out <+: o
section
variable {α β : Type}
theorem okB {m : M α} {k : α → M β} {s s2 : Sta} {b : β} (h : (m >>= k) s = .ok b s2) : ∃ a s1, m s = .ok a s1 ∧ k a s1 = .ok b s2 := by
  have e : (m >>= k) s = (match m s with | .ok a s' => k a s' | .exc c v s' => .exc c v s' | .bad => .bad) := rfl
  rw [e] at h
  cases q : m s with
  | ok a s' => rw [q] at h; exact ⟨a, s', rfl, h⟩
  | exc a b d => rw [q] at h; cases h
  | bad => rw [q] at h; cases h
theorem outB {m : M α} {k : α → M β} {s : Sta} {o : List D} (h : outR ((m >>= k) s) = some o) : (∃ a s1, m s = .ok a s1 ∧ outR (k a s1) = some o) ∨ outR (m s) = some o := by
  have e : (m >>= k) s = (match m s with | .ok a s' => k a s' | .exc c v s' => .exc c v s' | .bad => .bad) := rfl
  rw [e] at h
  cases q : m s with
  | ok a s' => rw [q] at h; exact .inl ⟨a, s', rfl, h⟩
  | exc a b d => rw [q] at h; exact .inr h
  | bad => rw [q] at h; cases h
theorem SameO.bind {m : M α} {k : α → M β} (a : SameO m) (b : ∀ x, SameO (k x)) : SameO (m >>= k) := fun s o h => by
  rcases outB h with ⟨y, s1, h1, h2⟩ | h1
  · rw [b y _ _ h2, a s s1.out (by rw [h1]; rfl)]
  · exact a _ _ h1
theorem PreO.bind {m : M α} {k : α → M β} (a : PreO m) (b : ∀ x, PreO (k x)) : PreO (m >>= k) := fun s o h => by
  rcases outB h with ⟨y, s1, h1, h2⟩ | h1
  · exact (a s s1.out (by rw [h1]; rfl)).trans (b y _ _ h2)
  · exact a _ _ h1
theorem SameO.pre {m : M α} (a : SameO m) : PreO m := fun s o h => by rw [a _ _ h]; exact List.prefix_refl _
theorem so_pure {a : α} : SameO (pure a : M α) := fun s o h => (Option.some.inj h).symm
theorem so_bad : SameO (M.bad : M α) := fun s o h => nomatch (h : (none : Option (List D)) = some o)
theorem so_opt {o : Option α} : SameO (M.opt o) := by cases o; exact so_bad; exact so_pure
theorem so_getS {i : Nat} : SameO (getS i) := fun s o h => by
  unfold getS at h
  repeat' split at h
  all_goals first | exact (Option.some.inj h).symm | exact (nomatch (h : (none : Option (List D)) = some o))
theorem so_setS {i : Nat} {x : Slot} : SameO (setS i x) := fun s o h => by
  unfold setS at h
  repeat' split at h
  all_goals first | exact (Option.some.inj h).symm | exact (nomatch (h : (none : Option (List D)) = some o))
theorem so_reads {rs : List R} : SameO (reads rs) := fun s o h => by
  unfold reads at h
  repeat' split at h
  all_goals first | exact (Option.some.inj h).symm | exact (nomatch (h : (none : Option (List D)) = some o))
theorem so_tagM {r : R} : SameO (tagM r) := fun s o h => by
  unfold tagM at h
  repeat' split at h
  all_goals first | exact (Option.some.inj h).symm | exact (nomatch (h : (none : Option (List D)) = some o))
theorem so_ofBR {b : BR} : SameO (ofBR b) := by cases b <;> first | exact so_pure | exact so_bad
theorem so_doCall {g : G} {j : Nat} {rs : List R} : SameO (doCall g j rs) := fun s o h => by
  unfold doCall at h
  repeat' split at h
  all_goals first | exact (Option.some.inj h).symm | exact (nomatch (h : (none : Option (List D)) = some o))
theorem so_doGen {g : G} {j : Nat} {rs : List R} : SameO (doGen g j rs) := fun s o h => by
  unfold doGen at h
  repeat' split at h
  all_goals first | exact (Option.some.inj h).symm | exact (nomatch (h : (none : Option (List D)) = some o))
theorem so_doMk {g : G} {c j : Nat} {rs : List R} : SameO (doMk g c j rs) := fun s o h => by
  unfold doMk at h
  repeat' split at h
  all_goals first | exact (Option.some.inj h).symm | exact (nomatch (h : (none : Option (List D)) = some o))
theorem so_keepM {r : R} : SameO (keepM r) := so_opt
theorem so_wipeM {own : List Nat} : SameO (wipeM own) := fun s o h => (Option.some.inj h).symm
theorem so_ownM {i : Nat} {f : Nat → Bool} : SameO (ownM i f) := fun s o h => by
  unfold ownM at h
  repeat' split at h
  all_goals first | exact (Option.some.inj h).symm | exact (nomatch (h : (none : Option (List D)) = some o))
theorem so_insM {c : Nat} {r : R} : SameO (insM c r) := fun s o h => by
  unfold insM at h
  repeat' split at h
  all_goals first | exact (Option.some.inj h).symm | exact (nomatch (h : (none : Option (List D)) = some o))
theorem so_dicInt {i : Nat} {k : D} : SameO (dicInt i k) := fun s o h => by
  unfold dicInt at h
  repeat' split at h
  all_goals first | exact (Option.some.inj h).symm | exact (nomatch (h : (none : Option (List D)) = some o))
theorem so_popM {i : Nat} {k : Int} : SameO (popM i k) := fun s o h => by
  unfold popM at h
  repeat' split at h
  all_goals first | exact (Option.some.inj h).symm | exact (nomatch (h : (none : Option (List D)) = some o))
theorem so_subM {i k : Nat} : SameO (subM i k) := fun s o h => by
  unfold subM at h
  repeat' split at h
  all_goals first | exact (Option.some.inj h).symm | exact (nomatch (h : (none : Option (List D)) = some o))
theorem so_asgAll : ∀ {is : List Nat} {ds : List D}, SameO (asgAll is ds)
  | [], [] => so_pure
  | [], _ :: _ => so_bad
  | _ :: _, [] => so_bad
  | _ :: is, _ :: ds => SameO.bind so_setS fun _ => so_asgAll
theorem so_asgTg : ∀ {tg : Tg} {d : D}, SameO (asgTg tg d) := by
  intro tg
  induction tg with
  | nm i => intro d; exact so_setS
  | tn is => intro d; cases d <;> first | exact so_asgAll | exact so_bad
  | t2 a b iha ihb =>
    intro d
    unfold asgTg
    split <;> first | exact so_bad | skip
    all_goals first | exact so_setS | exact so_asgAll | (rename_i h; cases h; exact SameO.bind iha fun _ => ihb) | exact SameO.bind iha fun _ => ihb | exact so_bad
theorem so_lcL {f : D → M (Option D)} (h : ∀ d, SameO (f d)) : ∀ {ds acc : List D}, SameO (lcL f ds acc)
  | [], _ => so_pure
  | d :: ds, acc => by
    unfold lcL
    refine SameO.bind (h d) fun o => ?_
    cases o with
    | none => exact so_lcL h
    | some x =>
      show SameO (if acc.length < LIM then lcL f ds (acc ++ [x]) else M.bad)
      split
      · exact so_lcL h
      · exact so_bad
theorem so_dcL {f : D → M (Key × D)} (h : ∀ d, SameO (f d)) : ∀ {ds : List D} {acc : List (Key × D)}, SameO (dcL f ds acc)
  | [], _ => so_pure
  | d :: ds, acc => by
    unfold dcL
    refine SameO.bind (h d) fun o => ?_
    obtain ⟨k, v⟩ := o
    show SameO (if acc.length < LIM then dcL f ds (dput acc k v) else M.bad)
    split
    · exact so_dcL h
    · exact so_bad
theorem so_blk {own : List Nat} {m : M α} (h : SameO m) : SameO (blk own m) := fun s o e => by
  unfold blk at e
  split at e
  · cases q : m { s with fr := wipeS own s.fr } with
    | ok a s1 =>
      rw [q] at e
      have z := h { s with fr := wipeS own s.fr } s1.out (by rw [q]; rfl)
      rw [← Option.some.inj e]
      exact z
    | exc _ _ _ => rw [q] at e; exact (nomatch (e : (none : Option (List D)) = some o))
    | bad => rw [q] at e; exact (nomatch (e : (none : Option (List D)) = some o))
  · exact (nomatch (e : (none : Option (List D)) = some o))
theorem so_rd {f : Sta → Option α} : SameO (fun s => match f s with | some d => Res.ok d s | none => .bad : M α) := fun s o h => by
  cases q : f s with
  | none => simp only [q] at h; exact (nomatch (h : (none : Option (List D)) = some o))
  | some d => simp only [q] at h; exact (Option.some.inj h).symm
end
mutual
theorem so_E (g : G) : ∀ e : CE, SameO (evE g e)
  | .var i => by unfold evE; exact SameO.bind so_getS fun x => by cases x <;> first | exact so_pure | exact so_bad
  | .bor i => by unfold evE; exact SameO.bind so_getS fun x => by cases x <;> first | exact so_pure | exact so_bad
  | .mv i => by unfold evE; exact SameO.bind so_getS fun x => by cases x <;> first | exact so_bad | exact SameO.bind so_setS fun _ => so_pure
  | .cst d => by unfold evE; exact so_pure
  | .gcst _ d => by unfold evE; exact so_pure
  | .tupE es => by unfold evE; exact SameO.bind (so_A g es) fun _ => SameO.bind so_opt fun ds => by split <;> first | exact so_pure | exact so_bad
  | .lstE es => by unfold evE; exact SameO.bind (so_A g es) fun _ => SameO.bind so_opt fun ds => by split <;> first | exact so_pure | exact so_bad
  | .dicE => by unfold evE; exact so_pure
  | .bi b es => by unfold evE; exact SameO.bind (so_A g es) fun _ => SameO.bind so_reads fun _ => so_ofBR
  | .bm b o es => by unfold evE; exact SameO.bind (so_E g o) fun _ => SameO.bind so_tagM fun k => by split <;> first | exact so_bad | exact SameO.bind (so_A g es) fun _ => SameO.bind so_reads fun _ => so_ofBR
  | .chain c1 c2 a b c => by
    unfold evE
    refine SameO.bind (so_E g a) fun x => SameO.bind (so_E g b) fun y => SameO.bind so_reads fun ds => ?_
    split <;> first | exact so_bad | exact so_pure | exact SameO.bind (so_E g c) fun _ => SameO.bind so_reads fun _ => so_ofBR
  | .and a b => by unfold evE; refine SameO.bind (so_E g a) fun x => ?_; split <;> first | exact so_bad | exact so_pure | exact so_E g b
  | .or a b => by unfold evE; refine SameO.bind (so_E g a) fun x => ?_; split <;> first | exact so_bad | exact so_pure | exact so_E g b
  | .not a => by unfold evE; refine SameO.bind (so_E g a) fun x => ?_; split <;> first | exact so_bad | exact so_pure
  | .ite t a b => by unfold evE; refine SameO.bind (so_T g t) fun x => ?_; split <;> first | exact so_E g a | exact so_E g b
  | .fld a c k => by unfold evE; refine SameO.bind (so_E g a) fun r => fun s o h => ?_; split at h; exact (Option.some.inj h).symm; exact (nomatch (h : (none : Option (List D)) = some o))
  | .prop a c _ j => by unfold evE; exact SameO.bind (so_E g a) fun r => SameO.bind so_insM fun _ => so_doCall
  | .call j es => by unfold evE; exact SameO.bind (so_A g es) fun r => so_doCall
  | .meth a c _ j es => by unfold evE; exact SameO.bind (so_E g a) fun r => SameO.bind so_insM fun _ => SameO.bind (so_A g es) fun _ => so_doCall
  | .mk c j es => by unfold evE; exact SameO.bind (so_A g es) fun r => so_doMk
  | .mkv i c j es => by
    unfold evE
    refine SameO.bind so_getS fun x => ?_
    split
    · split
      · exact SameO.bind (so_A g es) fun r => so_doMk
      · exact so_bad
    · exact so_bad
  | .cmeth c _ j es => by unfold evE; exact SameO.bind (so_A g es) fun r => so_doCall
  | .lc src tg t e own => by
    unfold evE
    refine SameO.bind (so_I g src) fun ds => SameO.bind (so_blk (so_lcL fun d => ?_)) fun _ => so_pure
    refine SameO.bind so_asgTg fun _ => SameO.bind (so_T g t) fun b => ?_
    split
    · exact SameO.bind (so_E g e) fun _ => SameO.bind so_keepM fun _ => SameO.bind so_wipeM fun _ => so_pure
    · exact SameO.bind so_wipeM fun _ => so_pure
  | .dc src tg k v own => by
    unfold evE
    refine SameO.bind (so_I g src) fun ds => SameO.bind (so_blk (so_dcL fun d => ?_)) fun _ => so_pure
    exact SameO.bind so_asgTg fun _ => SameO.bind (so_E g k) fun _ => SameO.bind (so_E g v) fun _ => SameO.bind so_keepM fun _ => SameO.bind so_keepM fun _ => SameO.bind so_opt fun _ => SameO.bind so_wipeM fun _ => so_pure
  | .listG j es => by unfold evE; exact SameO.bind (so_A g es) fun _ => SameO.bind so_doGen fun _ => so_pure
  | .pop i e => by unfold evE; exact SameO.bind so_ownM fun _ => SameO.bind (so_E g e) fun _ => SameO.bind so_opt fun _ => so_popM
theorem so_T (g : G) : ∀ t : CT, SameO (evT g t)
  | .tt => by unfold evT; exact so_pure
  | .val e => by unfold evT; refine SameO.bind (so_E g e) fun r => fun s o h => ?_; split at h; exact (Option.some.inj h).symm; exact (nomatch (h : (none : Option (List D)) = some o))
  | .not t => by unfold evT; exact SameO.bind (so_T g t) fun _ => so_pure
  | .and a b => by unfold evT; refine SameO.bind (so_T g a) fun x => ?_; split <;> first | exact so_T g b | exact so_pure
  | .or a b => by unfold evT; refine SameO.bind (so_T g a) fun x => ?_; split <;> first | exact so_T g b | exact so_pure
theorem so_A (g : G) : ∀ a : CA, SameO (evA g a)
  | .nil => by unfold evA; exact so_pure
  | .cons e r => by unfold evA; exact SameO.bind (so_E g e) fun _ => SameO.bind (so_A g r) fun _ => so_pure
  | .star e r => by
    unfold evA
    refine SameO.bind (so_E g e) fun x => SameO.bind so_keepM fun y => ?_
    split
    · exact SameO.bind (so_A g r) fun _ => so_pure
    · exact so_bad
theorem so_I (g : G) : ∀ i : CI, SameO (evI g i)
  | .val e => by unfold evI; exact SameO.bind (so_E g e) fun _ => SameO.bind so_keepM fun _ => so_opt
  | .rng1 e => by
    unfold evI
    refine SameO.bind (so_E g e) fun _ => SameO.bind so_keepM fun d => ?_
    split
    · split <;> first | exact so_pure | exact so_bad
    · exact so_bad
  | .rng2 a b => by
    unfold evI
    refine SameO.bind (so_E g a) fun _ => SameO.bind so_keepM fun x => SameO.bind (so_E g b) fun _ => SameO.bind so_keepM fun y => ?_
    split
    · split <;> first | exact so_pure | exact so_bad
    · exact so_bad
  | .enum e => by unfold evI; refine SameO.bind (so_E g e) fun _ => SameO.bind so_keepM fun x => ?_; split <;> first | exact so_pure | exact so_bad
  | .zip a b => by unfold evI; refine SameO.bind (so_E g a) fun _ => SameO.bind so_keepM fun x => SameO.bind (so_E g b) fun _ => SameO.bind so_keepM fun y => ?_; split <;> first | exact so_pure | exact so_bad
  | .items e => by unfold evI; refine SameO.bind (so_E g e) fun _ => SameO.bind so_keepM fun x => ?_; split <;> first | exact so_pure | exact so_bad
  | .gen j es => by unfold evI; exact SameO.bind (so_A g es) fun _ => so_doGen
end
theorem so_bindM {i : Nat} {o : Bool} {r : R} : SameO (bindM i o r) := by
  unfold bindM
  split
  · exact so_setS
  · exact SameO.bind so_keepM fun _ => so_setS
  · exact so_bad
theorem so_updI {i : Nat} {f : D → Option D} : SameO (updI i f) := by
  unfold updI
  refine SameO.bind so_getS fun x => ?_
  split
  · split <;> first | exact so_setS | exact so_bad
  · exact so_bad
theorem po_forL {f : D → M Fl} (h : ∀ d, PreO (f d)) : ∀ {ds : List D}, PreO (forL f ds)
  | [] => so_pure.pre
  | d :: ds => by
    unfold forL
    refine PreO.bind (h d) fun x => ?_
    cases x <;> first | exact po_forL h | exact so_pure.pre
theorem po_whL {t : M Bool} {b : M Fl} (ht : SameO t) (hb : PreO b) : ∀ {n : Nat}, PreO (whL t b n)
  | 0 => so_bad.pre
  | n + 1 => by
    unfold whL
    refine PreO.bind ht.pre fun x => ?_
    cases x with
    | false => exact so_pure.pre
    | true =>
      refine PreO.bind hb fun y => ?_
      cases y <;> first | exact po_whL ht hb | exact so_pure.pre
theorem po_yldM {d : D} : PreO (yldM d) := fun s o h => by
  unfold yldM at h
  split at h
  · rw [← Option.some.inj h]; exact List.prefix_append _ _
  · exact (nomatch (h : (none : Option (List D)) = some o))
mutual
theorem po_S (g : G) : ∀ e : CS, PreO (evS g e)
  | .expr e => by unfold evS; exact (SameO.bind (so_E g e) fun _ => so_pure).pre
  | .asg i o e => by unfold evS; exact (SameO.bind (so_E g e) fun _ => SameO.bind so_bindM fun _ => so_pure).pre
  | .asgT tg e => by unfold evS; exact (SameO.bind (so_E g e) fun _ => SameO.bind so_keepM fun _ => SameO.bind so_asgTg fun _ => so_pure).pre
  | .par2 i o a j p b => by unfold evS; exact (SameO.bind (so_E g a) fun _ => SameO.bind (so_E g b) fun _ => SameO.bind so_bindM fun _ => SameO.bind so_bindM fun _ => so_pure).pre
  | .setI i k e => by unfold evS; exact (SameO.bind (so_E g e) fun _ => SameO.bind so_ownM fun _ => SameO.bind (so_E g k) fun _ => SameO.bind so_keepM fun _ => SameO.bind so_keepM fun _ => SameO.bind so_updI fun _ => so_pure).pre
  | .subI i k e => by unfold evS; exact (SameO.bind so_ownM fun _ => SameO.bind (so_E g k) fun _ => SameO.bind so_keepM fun _ => SameO.bind so_dicInt fun _ => SameO.bind (so_E g e) fun _ => SameO.bind so_opt fun _ => SameO.bind so_ownM fun _ => SameO.bind so_updI fun _ => so_pure).pre
  | .app i e => by unfold evS; exact (SameO.bind so_ownM fun _ => SameO.bind (so_E g e) fun _ => SameO.bind so_keepM fun _ => SameO.bind so_updI fun _ => so_pure).pre
  | .setF i c k e => by unfold evS; exact (SameO.bind (so_E g e) fun _ => SameO.bind so_keepM fun _ => SameO.bind so_subM fun _ => SameO.bind so_updI fun _ => so_pure).pre
  | .ite t a b => by unfold evS; refine PreO.bind (so_T g t).pre fun x => ?_; split <;> first | exact po_B g a | exact po_B g b
  | .forS tg src b => by unfold evS; exact PreO.bind (so_I g src).pre fun ds => po_forL fun d => PreO.bind so_asgTg.pre fun _ => po_B g b
  | .whil t b => by unfold evS; exact po_whL (so_T g t) (po_B g b)
  | .ret e => by unfold evS; refine (SameO.bind (so_E g e) fun x => ?_).pre; split <;> first | exact so_bad | exact so_pure
  | .retN => by unfold evS; exact so_pure.pre
  | .raise c es => by unfold evS; refine (SameO.bind (so_A g es) fun _ => SameO.bind so_opt fun ds => ?_).pre; exact fun s o h => (Option.some.inj (h : some s.out = some o)).symm
  | .tryE b c h => fun s o e => by
    unfold evS at e
    cases q : evB g b s with
    | ok f s1 => simp only [q] at e; exact po_B g b s o (by rw [q]; exact e)
    | bad => simp only [q] at e; exact (nomatch (e : (none : Option (List D)) = some o))
    | exc c' vs s1 =>
      simp only [q] at e
      have z := po_B g b s s1.out (by rw [q]; rfl)
      split at e
      · exact z.trans (po_B g h s1 o e)
      · rw [← Option.some.inj e]; exact z
  | .mseq i is gd b e => by
    unfold evS
    refine PreO.bind so_getS.pre fun x => ?_
    split
    · split
      · refine PreO.bind so_asgAll.pre fun _ => PreO.bind (so_T g gd).pre fun t => ?_
        split <;> first | exact po_B g b | exact po_B g e
      · exact po_B g e
    · split <;> first | exact so_bad.pre | exact po_B g e
    · split <;> first | exact so_bad.pre | exact po_B g e
    · exact so_bad.pre
  | .pass => by unfold evS; exact so_pure.pre
  | .never => by unfold evS; exact so_bad.pre
  | .cnt => by unfold evS; exact so_pure.pre
  | .brk => by unfold evS; exact so_pure.pre
  | .yld e => by unfold evS; exact PreO.bind (so_E g e).pre fun _ => PreO.bind so_keepM.pre fun _ => PreO.bind po_yldM fun _ => so_pure.pre
  | .yldG j es => by
    unfold evS
    refine PreO.bind (so_A g es).pre fun _ => PreO.bind so_doGen.pre fun ds => fun s o h => ?_
    split at h
    · rw [← Option.some.inj h]; exact List.prefix_append _ _
    · exact (nomatch (h : (none : Option (List D)) = some o))
theorem po_B (g : G) : ∀ e : CB, PreO (evB g e)
  | .nil => by unfold evB; exact so_pure.pre
  | .cons s r => by
    unfold evB
    refine PreO.bind (po_S g s) fun f => ?_
    split <;> first | exact po_B g r | exact so_pure.pre
end
theorem PreO.ok {α : Type} {m : M α} (h : PreO m) {s s1 : Sta} {a : α} (e : m s = .ok a s1) : s.out <+: s1.out := h s s1.out (by rw [e]; rfl)
theorem SameO.ok {α : Type} {m : M α} (h : SameO m) {s s1 : Sta} {a : α} (e : m s = .ok a s1) : s1.out = s.out := h s s1.out (by rw [e]; rfl)
end Mi

set_option Elab.async false
set_option linter.all false
set_option maxRecDepth 100000
/-! Mi: blocks without a return. -/
namespace Mi
open PySem L2
mutual
def nrS : CS → Bool
  | .ret _ => false
  | .retN => false
  | .ite _ a b => nrB a && nrB b
  | .forS _ _ b => nrB b
  | .whil _ b => nrB b
  | .tryE b _ h => nrB b && nrB h
  | .mseq _ _ _ b e => nrB b && nrB e
  | _ => true
def nrB : CB → Bool
  | .nil => true
  | .cons s r => nrS s && nrB r
end
def NR (m : M Fl) : Prop := ∀ s f s', m s = .ok f s' → ∀ r, f ≠ .ret r
theorem nr_pure {f : Fl} (h : ∀ r, f ≠ .ret r) : NR (pure f) := fun s g s' e r => by cases e; exact h r
theorem NR.bind {α : Type} {m : M α} {k : α → M Fl} (h : ∀ a, NR (k a)) : NR (m >>= k) := fun s f s' e => by
  obtain ⟨a, s1, _, e2⟩ := okB e
  exact h a s1 f s' e2
theorem nr_bad : NR (M.bad : M Fl) := fun s f s' e => by cases e
theorem nr_forL {f : D → M Fl} (h : ∀ d, NR (f d)) : ∀ {ds : List D}, NR (forL f ds)
  | [] => nr_pure fun r z => by cases z
  | d :: ds => fun s fl s' e => by
    unfold forL at e
    obtain ⟨a, s1, e1, e2⟩ := okB e
    have q := h d s a s1 e1
    cases a with
    | nx => exact nr_forL h s1 fl s' e2
    | cnt => exact nr_forL h s1 fl s' e2
    | brk => cases e2; exact fun r z => by cases z
    | ret r => exact (q r rfl).elim
theorem nr_whL {t : M Bool} {b : M Fl} (h : NR b) : ∀ {n : Nat}, NR (whL t b n)
  | 0 => nr_bad
  | n + 1 => fun s fl s' e => by
    unfold whL at e
    obtain ⟨x, s0, e0, e⟩ := okB e
    cases x with
    | false => cases e; exact fun r z => by cases z
    | true =>
      obtain ⟨a, s1, e1, e2⟩ := okB e
      have q := h s0 a s1 e1
      cases a with
      | nx => exact nr_whL h s1 fl s' e2
      | cnt => exact nr_whL h s1 fl s' e2
      | brk => cases e2; exact fun r z => by cases z
      | ret r => exact (q r rfl).elim
mutual
theorem nr_S (g : G) : ∀ (st : CS), nrS st = true → NR (evS g st)
  | .expr e, _ => by unfold evS; exact NR.bind fun _ => nr_pure fun r z => by cases z
  | .asg i o e, _ => by unfold evS; exact NR.bind fun _ => NR.bind fun _ => nr_pure fun r z => by cases z
  | .asgT tg e, _ => by unfold evS; exact NR.bind fun _ => NR.bind fun _ => NR.bind fun _ => nr_pure fun r z => by cases z
  | .par2 i o a j p b, _ => by unfold evS; exact NR.bind fun _ => NR.bind fun _ => NR.bind fun _ => NR.bind fun _ => nr_pure fun r z => by cases z
  | .setI i k e, _ => by unfold evS; exact NR.bind fun _ => NR.bind fun _ => NR.bind fun _ => NR.bind fun _ => NR.bind fun _ => NR.bind fun _ => nr_pure fun r z => by cases z
  | .subI i k e, _ => by unfold evS; exact NR.bind fun _ => NR.bind fun _ => NR.bind fun _ => NR.bind fun _ => NR.bind fun _ => NR.bind fun _ => NR.bind fun _ => NR.bind fun _ => nr_pure fun r z => by cases z
  | .app i e, _ => by unfold evS; exact NR.bind fun _ => NR.bind fun _ => NR.bind fun _ => NR.bind fun _ => nr_pure fun r z => by cases z
  | .setF i c k e, _ => by unfold evS; exact NR.bind fun _ => NR.bind fun _ => NR.bind fun _ => NR.bind fun _ => nr_pure fun r z => by cases z
  | .ite t a b, h => by
    have h : (nrB a && nrB b) = true := h
    rw [Bool.and_eq_true] at h
    unfold evS
    refine NR.bind fun x => ?_
    split <;> first | exact nr_B g a h.1 | exact nr_B g b h.2
  | .forS tg src b, h => by unfold evS; exact NR.bind fun ds => nr_forL fun d => NR.bind fun _ => nr_B g b h
  | .whil t b, h => by unfold evS; exact nr_whL (nr_B g b h)
  | .ret e, h => by cases h
  | .retN, h => by cases h
  | .raise c es, _ => by unfold evS; exact NR.bind fun _ => NR.bind fun _ => fun s f s' e => by cases e
  | .tryE b c x, h => fun s f s' e => by
    have h : (nrB b && nrB x) = true := h
    rw [Bool.and_eq_true] at h
    unfold evS at e
    cases q : evB g b s with
    | ok f1 s1 => simp only [q] at e; cases e; exact nr_B g b h.1 s f s' q
    | bad => simp only [q] at e; cases e
    | exc c' vs s1 =>
      simp only [q] at e
      split at e
      · exact nr_B g x h.2 s1 f s' e
      · cases e
  | .mseq i is gd b e, h => by
    have h : (nrB b && nrB e) = true := h
    rw [Bool.and_eq_true] at h
    unfold evS
    refine NR.bind fun x => ?_
    split
    · split
      · refine NR.bind fun _ => NR.bind fun t => ?_
        split <;> first | exact nr_B g b h.1 | exact nr_B g e h.2
      · exact nr_B g e h.2
    · split <;> first | exact nr_bad | exact nr_B g e h.2
    · split <;> first | exact nr_bad | exact nr_B g e h.2
    · exact nr_bad
  | .pass, _ => by unfold evS; exact nr_pure fun r z => by cases z
  | .never, _ => by unfold evS; exact nr_bad
  | .cnt, _ => by unfold evS; exact nr_pure fun r z => by cases z
  | .brk, _ => by unfold evS; exact nr_pure fun r z => by cases z
  | .yld e, _ => by unfold evS; exact NR.bind fun _ => NR.bind fun _ => NR.bind fun _ => nr_pure fun r z => by cases z
  | .yldG j es, _ => by
    unfold evS
    refine NR.bind fun _ => NR.bind fun ds => fun s f s' e => ?_
    split at e <;> cases e
    exact fun r z => by cases z
theorem nr_B (g : G) : ∀ (b : CB), nrB b = true → NR (evB g b)
  | .nil, _ => by unfold evB; exact nr_pure fun r z => by cases z
  | .cons s r, h => fun st f st' e => by
    have h : (nrS s && nrB r) = true := h
    rw [Bool.and_eq_true] at h
    unfold evB at e
    obtain ⟨a, s1, e1, e2⟩ := okB e
    have q := nr_S g s h.1 st a s1 e1
    cases a with
    | nx => exact nr_B g r h.2 s1 f st' e2
    | brk => cases e2; exact fun r z => by cases z
    | cnt => cases e2; exact fun r z => by cases z
    | ret r => exact (q r rfl).elim
end
end Mi

set_option Elab.async false
set_option linter.all false
set_option maxRecDepth 100000
/-! MiFrame: what runs without waking a sleeping generator leaves it asleep. -/
namespace Fz
open PySem
open Sem (wp)
def asleep : GenState → Bool
  | .suspended .. => true
  | _ => false
/-- it cannot be woken any more, and looks as before -/
def deaf : GenState → GenState
  | .suspended _ l c p fs cl => .suspended (fun _ => .unsupported "") l c p fs cl
  | x => x
theorem deaf_seen (x : GenState) : (deaf x).seen = x.seen := by cases x <;> rfl
theorem deaf_bare (x : GenState) : (deaf x).bare = x.bare := by cases x <;> rfl
theorem deaf_id {x : GenState} (h : asleep x = false) : deaf x = x := by cases x <;> first | rfl | cases h
def heal (G0 G : Array GenState) : Array GenState := G.mapIdx fun i x => match G0[i]? with
  | some y => if asleep y = true then y else x
  | none => x
theorem heal_size {G0 G : Array GenState} : (heal G0 G).size = G.size := by simp [heal]
theorem heal_get {G0 G : Array GenState} {i : Nat} : (heal G0 G)[i]? = (G[i]?).map fun x => match G0[i]? with
  | some y => if asleep y = true then y else x
  | none => x := by
  unfold heal
  rw [Array.getElem?_mapIdx]
def NoG (fs : List Frame) : Prop := splitAtGen fs = none
structure Hid (G0 G : Array GenState) : Prop where
  put : ∀ (i : Nat) (y : GenState), G0[i]? = some y → asleep y = true → G[i]? = some (deaf y)
  frs : ∀ (i : Nat) (k : Resume → Sem PySem.Fin) (l : List Value) (c : Code) (p : Pos) (fs : List Frame) (cl : Bool), G[i]? = some (.suspended k l c p fs cl) → (∀ y, G0[i]? = some y → asleep y = false) → NoG fs
theorem NoG.tail {F : Frame} {fs : List Frame} (h : NoG (F :: fs)) : NoG fs ∧ ∃ k hd g l c p kp, F = .ret k hd g l c p kp := by
  unfold NoG at h ⊢
  cases F with
  | gen g k l c p => cases h
  | ret k hd g l c p kp =>
    refine ⟨?_, k, hd, g, l, c, p, kp, rfl⟩
    have h : (splitAtGen fs).map _ = none := h
    exact Option.map_eq_none_iff.mp h
theorem NoG.cons {k : Result → Sem PySem.Fin} {hd : Option Value} {g : Bool} {l : List Value} {c : Code} {p : Pos} {kp : List Value} {fs : List Frame} (h : NoG fs) : NoG (.ret k hd g l c p kp :: fs) := by
  unfold NoG at h ⊢
  show (splitAtGen fs).map _ = none
  rw [h]; rfl
theorem NoG.append : ∀ {fs gs : List Frame}, NoG fs → NoG gs → NoG (fs ++ gs)
  | [], _, _, h => h
  | F :: fs, gs, h, h2 => by
    obtain ⟨h1, k, hd, g, l, c, p, kp, rfl⟩ := h.tail
    exact NoG.cons (NoG.append h1 h2)
def NoGE : End → Prop
  | .ret _ => True
  | .susp _ _ _ _ _ _ fs => NoG fs
theorem no_unsupported {M : Model} {Γ : Ctx} {p : Pos} {t : Sem PySem.Fin} {fs : List Frame} {s s' : Shared} {e : End} {x : String} (h : Runs M Γ p t fs s e s') : t ≠ .unsupported x := by
  induction h <;> (intro z; first | (cases z; done) | (subst z; simp_all; done) | skip)
section
variable {G0 G : Array GenState}
theorem Hid.size (h : Hid G0 G) {g : Nat} (hg : G.size ≤ g) : ∀ y, G0[g]? = some y → asleep y = false := fun y e => by
  cases q : asleep y with
  | false => rfl
  | true =>
    have := (Array.getElem?_eq_some_iff.mp (h.put g y e q)).1
    omega
theorem Hid.push (h : Hid G0 G) {c : Code} : Hid G0 (G.push (.fresh c)) ∧ heal G0 (G.push (.fresh c)) = (heal G0 G).push (.fresh c) := by
  have hn := h.size (Nat.le_refl G.size)
  refine ⟨⟨fun i y e q => ?_, fun i k l c' p fs cl e q => ?_⟩, ?_⟩
  · have z := h.put i y e q
    rw [Array.getElem?_push_lt (Array.getElem?_eq_some_iff.mp z).1]
    rw [← Array.getElem?_eq_getElem]; exact z
  · rw [Array.getElem?_push] at e
    split at e
    · cases e
    · exact h.frs i k l c' p fs cl e q
  · apply Array.ext_getElem?
    intro i
    rw [heal_get, Array.getElem?_push, Array.getElem?_push, heal_size]
    by_cases q : i = G.size
    · rw [if_pos q, if_pos q]
      show some _ = _
      congr 1
      cases z : G0[i]? with
      | none => rfl
      | some y =>
        have := hn y (by rw [← q]; exact z)
        simp [this]
    · rw [if_neg q, if_neg q, heal_get]
theorem Hid.set (h : Hid G0 G) {g : Nat} {x : GenState} (hn : ∀ y, G0[g]? = some y → asleep y = false) (hx : ∀ k l c p fs cl, x = .suspended k l c p fs cl → NoG fs) :
    Hid G0 (G.setIfInBounds g x) ∧ heal G0 (G.setIfInBounds g x) = (heal G0 G).setIfInBounds g x := by
  refine ⟨⟨fun i y e q => ?_, fun i k l c p fs cl e q => ?_⟩, ?_⟩
  · have ne : g ≠ i := fun z => by rw [← z] at e; rw [hn y e] at q; cases q
    rw [Array.getElem?_setIfInBounds_ne ne]
    exact h.put i y e q
  · rw [Array.getElem?_setIfInBounds] at e
    split at e
    · split at e
      · cases e; exact hx _ _ _ _ _ _ rfl
      · cases e
    · exact h.frs i k l c p fs cl e q
  · apply Array.ext_getElem?
    intro i
    rw [heal_get, Array.getElem?_setIfInBounds, Array.getElem?_setIfInBounds, heal_size]
    by_cases q : g = i
    · subst q
      rw [if_pos rfl, if_pos rfl]
      by_cases q : g < G.size
      · rw [if_pos q]
        show some _ = _
        congr 1
        cases z : G0[g]? with
        | none => rfl
        | some y => simp [hn y z]
      · rw [if_neg q]; rfl
    · rw [if_neg q, if_neg q, heal_get]
theorem Hid.get (h : Hid G0 G) {g : Nat} {st : GenState} (e : G[g]? = some st) : (∃ y, G0[g]? = some y ∧ asleep y = true ∧ st = deaf y ∧ (heal G0 G)[g]? = some y) ∨ ((∀ y, G0[g]? = some y → asleep y = false) ∧ (heal G0 G)[g]? = some st) := by
  rw [heal_get, e]
  cases z : G0[g]? with
  | none => exact .inr ⟨fun y q => (by cases q), rfl⟩
  | some y =>
    cases q : asleep y with
    | true =>
      refine .inl ⟨y, rfl, q, ?_, by simp [q]⟩
      have := h.put g y z q
      rw [e] at this
      exact Option.some.inj this
    | false => exact .inr ⟨fun y' r => (by cases r; exact q), by simp [q]⟩
theorem genState_nog {e : End} (h : NoGE e) : ∀ k l c p fs cl, e.genState = .suspended k l c p fs cl → NoG fs := by
  intro k l c p fs cl z
  cases e with
  | ret _ => cases z
  | susp v g l k c p fs => cases z; exact h
end
abbrev wh (G0 : Array GenState) (s : Shared) : Shared := { s with gens := heal G0 s.gens }
theorem runs {M : Model} {G0 : Array GenState} {Γ : Ctx} {p : Pos} {t : Sem PySem.Fin} {fs : List Frame} {s s' : Shared} {e : End} (h : Runs M Γ p t fs s e s') :
    Hid G0 s.gens → NoG fs → Hid G0 s'.gens ∧ NoGE e ∧ Runs M Γ p t fs (wh G0 s) e (wh G0 s') := by
  induction h with
  | done => exact fun h _ => ⟨h, trivial, .done⟩
  | raise => exact fun h _ => ⟨h, trivial, .raise⟩
  | again q _ ih => intro h n; obtain ⟨a, b, c⟩ := ih h n; exact ⟨a, b, .again q c⟩
  | rule _ ih => intro h n; obtain ⟨a, b, c⟩ := ih h n; exact ⟨a, b, .rule c⟩
  | «at» _ ih => intro h n; obtain ⟨a, b, c⟩ := ih h n; exact ⟨a, b, .at c⟩
  | load e _ ih => intro h n; obtain ⟨a, b, c⟩ := ih h n; exact ⟨a, b, .load e c⟩
  | update e _ ih => intro h n; obtain ⟨a, b, c⟩ := ih h n; exact ⟨a, b, .update e c⟩
  | loadIfAlive _ ih => intro h n; obtain ⟨a, b, c⟩ := ih h n; exact ⟨a, b, .loadIfAlive c⟩
  | point _ ih => intro h n; obtain ⟨a, b, c⟩ := ih h n; exact ⟨a, b, .point c⟩
  | alloc _ ih => intro h n; obtain ⟨a, b, c⟩ := ih h n; exact ⟨a, b, .alloc c⟩
  | fresh _ ih => intro h n; obtain ⟨a, b, c⟩ := ih h n; exact ⟨a, b, .fresh c⟩
  | ask _ ih => intro h n; obtain ⟨a, b, c⟩ := ih h n; exact ⟨a, b, .ask c⟩
  | choose e _ ih => intro h n; obtain ⟨a, b, c⟩ := ih h n; exact ⟨a, b, .choose e c⟩
  | os _ ih => intro h n; obtain ⟨a, b, c⟩ := ih h n; exact ⟨a, b, .os c⟩
  | handled _ ih => intro h n; obtain ⟨a, b, c⟩ := ih h n; exact ⟨a, b, .handled c⟩
  | genState e _ ih =>
    intro h n
    obtain ⟨a, b, c⟩ := ih h n
    rcases h.get e with ⟨y, _, _, rfl, z⟩ | ⟨_, z⟩
    · rw [deaf_seen] at c
      exact ⟨a, b, .genState z c⟩
    · exact ⟨a, b, .genState z c⟩
  | stack _ ih => intro h n; obtain ⟨a, b, c⟩ := ih h n; exact ⟨a, b, .stack c⟩
  | thread _ ih => intro h n; obtain ⟨a, b, c⟩ := ih h n; exact ⟨a, b, .thread c⟩
  | @newGen Γ p k s e s' c0 _ ih =>
    intro h n
    obtain ⟨h1, h2⟩ := h.push (c := c0)
    obtain ⟨a, b, c⟩ := ih h1 n
    refine ⟨a, b, .newGen ?_⟩
    show Runs M Γ p (k (heal G0 s.gens).size) [] { s with gens := (heal G0 s.gens).push (.fresh c0) } e _
    rw [heal_size, ← h2]
    exact c
  | call _ _ ih1 ih2 =>
    intro h n
    obtain ⟨a, _, c⟩ := ih1 h n
    obtain ⟨a', b', c'⟩ := ih2 a n
    exact ⟨a', b', .call c c'⟩
  | callSusp _ ih =>
    intro h n
    obtain ⟨a, b, c⟩ := ih h n
    exact ⟨a, NoG.append b (NoG.cons n), .callSusp c⟩
  | yield => exact fun h n => ⟨h, n, .yield⟩
  | @resumeFresh Γ p g l k s c e₁ s₁ e s' hg _ hq _ ih1 ih2 =>
    intro h n
    rcases h.get hg with ⟨y, hy, ha, hd, _⟩ | ⟨hn, hz⟩
    · cases y <;> first | (cases hd; done) | (cases ha; done)
    · obtain ⟨h1, e1⟩ := h.set (g := g) (x := .running) hn fun _ _ _ _ _ _ z => by cases z
      obtain ⟨a, b, r⟩ := ih1 h1 n
      obtain ⟨h2, e2⟩ := a.set (g := g) (x := e₁.genState) hn (genState_nog b)
      obtain ⟨a', b', r'⟩ := ih2 h2 n
      refine ⟨a', b', .resumeFresh hz (s₁ := wh G0 s₁) ?_ hq ?_⟩
      · have r : Runs M _ _ _ _ { s with gens := heal G0 (s.gens.setIfInBounds g .running) } _ _ := r
        rw [e1] at r
        exact r
      · have r' : Runs M _ _ _ _ { s₁ with gens := heal G0 (s₁.gens.setIfInBounds g e₁.genState) } _ _ := r'
        rw [e2] at r'
        exact r'
  | @resumeSuspended Γ p g r l k s k₀ l₀ c₀ p₀ fs cl e₁ s₁ e s' hg h1r hq _ ih1 ih2 =>
    intro h n
    rcases h.get hg with ⟨y, hy, ha, hd, _⟩ | ⟨hn, hz⟩
    · cases y with
      | suspended k l c p fs cl =>
        cases hd
        exact (no_unsupported h1r rfl).elim
      | _ => cases ha
    · obtain ⟨h1, e1⟩ := h.set (g := g) (x := .running) hn fun _ _ _ _ _ _ z => by cases z
      obtain ⟨a, b, r⟩ := ih1 h1 (h.frs g _ _ _ _ _ _ hg hn)
      obtain ⟨h2, e2⟩ := a.set (g := g) (x := e₁.genState) hn (genState_nog b)
      obtain ⟨a', b', r'⟩ := ih2 h2 n
      refine ⟨a', b', .resumeSuspended hz (s₁ := wh G0 s₁) ?_ hq ?_⟩
      · have r : Runs M _ _ _ _ { s with gens := heal G0 (s.gens.setIfInBounds g .running) } _ _ := r
        rw [e1] at r
        exact r
      · have r' : Runs M _ _ _ _ { s₁ with gens := heal G0 (s₁.gens.setIfInBounds g e₁.genState) } _ _ := r'
        rw [e2] at r'
        exact r'
  | resumeJustStarted hg hv _ ih =>
    intro h n
    obtain ⟨a, b, c⟩ := ih h n
    rcases h.get hg with ⟨y, hy, ha, hd, _⟩ | ⟨hn, hz⟩
    · cases y <;> first | (cases hd; done) | (cases ha; done)
    · exact ⟨a, b, .resumeJustStarted hz hv c⟩
  | resumeThrowFresh hg _ ih =>
    intro h n
    rcases h.get hg with ⟨y, hy, ha, hd, _⟩ | ⟨hn, hz⟩
    · cases y <;> first | (cases hd; done) | (cases ha; done)
    · obtain ⟨h1, e1⟩ := h.set (x := .finished) hn fun _ _ _ _ _ _ z => by cases z
      obtain ⟨a, b, r⟩ := ih h1 n
      refine ⟨a, b, .resumeThrowFresh hz ?_⟩
      simpa only [wh, Shared.setGen, e1] using r
  | resumeRunning hg _ ih =>
    intro h n
    obtain ⟨a, b, c⟩ := ih h n
    rcases h.get hg with ⟨y, hy, ha, hd, _⟩ | ⟨hn, hz⟩
    · cases y <;> first | (cases hd; done) | (cases ha; done)
    · exact ⟨a, b, .resumeRunning hz c⟩
  | resumeFinished hg _ ih =>
    intro h n
    obtain ⟨a, b, c⟩ := ih h n
    rcases h.get hg with ⟨y, hy, ha, hd, _⟩ | ⟨hn, hz⟩
    · cases y <;> first | (cases hd; done) | (cases ha; done)
    · exact ⟨a, b, .resumeFinished hz c⟩
  | segRet _ _ ih1 ih2 =>
    intro h n
    obtain ⟨a, _, c⟩ := ih1 h rfl
    obtain ⟨a', b', c'⟩ := ih2 a n.tail.1
    exact ⟨a', b', .segRet c c'⟩
  | segGen _ _ _ _ => intro h n; cases n
  | segSuspOut hs _ ih =>
    intro h n
    obtain ⟨a, b, c⟩ := ih h rfl
    exact ⟨a, NoG.append b n, .segSuspOut hs c⟩
  | segSuspGen hs _ _ _ _ _ =>
    intro h n
    unfold NoG at n
    rw [hs] at n
    cases n

theorem hid0 {G : Array GenState} (hf : True) : Hid G (G.map deaf) where
  put := fun i y e q => by rw [Array.getElem?_map, e]; rfl
  frs := fun i k l c p fs cl e q => by
    rw [Array.getElem?_map] at e
    cases z : G[i]? with
    | none => rw [z] at e; cases e
    | some y =>
      rw [z] at e
      have e : deaf y = _ := Option.some.inj e
      rw [deaf_id (q y z)] at e
      have := q y z
      rw [e] at this
      cases this
theorem heal0 {G : Array GenState} : heal G (G.map deaf) = G := by
  apply Array.ext_getElem?
  intro i
  rw [heal_get, Array.getElem?_map]
  cases z : G[i]? with
  | none => rfl
  | some y =>
    show some _ = some _
    congr 1
    cases q : asleep y with
    | true => simp [q]
    | false => simp [q, deaf_id q]
theorem wakes {M : Model} {G0 : Array GenState} {Γ : Ctx} {p : Pos} {g : Nat} {r : Resume} {s s' : Shared} {res : GenResult} (h : Wakes M Γ p g r s res s') (hh : Hid G0 s.gens) : Hid G0 s'.gens ∧ Wakes M Γ p g r (wh G0 s) res (wh G0 s') := by
  unfold Wakes at h ⊢
  cases hg : s.gens[g]? with
  | none => rw [hg] at h; exact h.elim
  | some st =>
    rw [hg] at h
    rcases hh.get hg with ⟨y, hy, ha, hd, hz⟩ | ⟨hn, hz⟩
    · cases y with
      | suspended k l c p fs cl =>
        subst hd
        obtain ⟨e₁, s₁, hr, _⟩ := h
        exact (no_unsupported hr rfl).elim
      | _ => cases ha
    · rw [show (wh G0 s).gens[g]? = some st from hz]
      have main : ∀ {Γ' : Ctx} {p' : Pos} {t : Sem PySem.Fin} {fs : List Frame} {e₁ : End} {s₁ : Shared}, NoG fs → Runs M Γ' p' t fs (s.setGen g .running) e₁ s₁ →
          Hid G0 (s₁.setGen g e₁.genState).gens ∧ Runs M Γ' p' t fs ((wh G0 s).setGen g .running) e₁ (wh G0 s₁) ∧ wh G0 (s₁.setGen g e₁.genState) = (wh G0 s₁).setGen g e₁.genState := by
        intro Γ' p' t fs e₁ s₁ n hr
        obtain ⟨h1, e1⟩ := hh.set (g := g) (x := .running) hn fun _ _ _ _ _ _ z => by cases z
        obtain ⟨a, b, r⟩ := runs hr h1 n
        obtain ⟨h2, e2⟩ := a.set (g := g) (x := e₁.genState) hn (genState_nog b)
        refine ⟨h2, ?_, ?_⟩
        · simpa only [wh, Shared.setGen, e1] using r
        · simp only [wh, Shared.setGen, e2]
      cases st with
      | fresh c =>
        cases r with
        | send v =>
          cases v with
          | none =>
            obtain ⟨e₁, s₁, hr, hq, h3, rfl⟩ := h
            obtain ⟨a, b, c⟩ := main (fs := []) rfl hr
            exact ⟨a, e₁, wh G0 s₁, b, hq, h3, c⟩
          | _ => obtain ⟨h1, rfl⟩ := h; exact ⟨hh, h1, rfl⟩
        | throw x =>
          obtain ⟨h1, rfl⟩ := h
          obtain ⟨h2, e2⟩ := hh.set (g := g) (x := .finished) hn fun _ _ _ _ _ _ z => by cases z
          exact ⟨h2, h1, by simp only [wh, Shared.setGen, e2]⟩
      | suspended k₀ l c₀ p₀ fs cl =>
        obtain ⟨e₁, s₁, hr, hq, h3, rfl⟩ := h
        obtain ⟨a, b, c⟩ := main (hh.frs g _ _ _ _ _ _ hg hn) hr
        exact ⟨a, e₁, wh G0 s₁, b, hq, h3, c⟩
      | running => obtain ⟨h1, rfl⟩ := h; exact ⟨hh, h1, rfl⟩
      | finished => obtain ⟨h1, rfl⟩ := h; exact ⟨hh, h1, rfl⟩
theorem wps {α : Type} (M : Model) (G0 : Array GenState) (Γ : Ctx) (t : Sem α) : ∀ (Q : α → Pos → Shared → Prop) (E : Value → Pos → Shared → Prop) (p : Pos) (s : Shared), Hid G0 s.gens → wp M Γ t Q E p s →
    wp M Γ t (fun a p' s' => ∃ s1, s' = wh G0 s1 ∧ Hid G0 s1.gens ∧ Q a p' s1) (fun e p' s' => ∃ s1, s' = wh G0 s1 ∧ Hid G0 s1.gens ∧ E e p' s1) p (wh G0 s) := by
  induction t with
  | pure a => intro Q E p s hh h; exact ⟨s, rfl, hh, h⟩
  | raise e => intro Q E p s hh h; exact ⟨s, rfl, hh, h⟩
  | unsupported _ => intro Q E p s _ h; exact h
  | finish _ => intro Q E p s _ h; exact h
  | rule _ k ih => intro Q E p s hh h; exact ih () Q E p s hh h
  | «at» p' k ih => intro Q E p s hh h; exact ih () Q E p' s hh h
  | load a _ k ih => intro Q E p s hh h; obtain ⟨o, ho, h⟩ := h; exact ⟨o, ho, ih o Q E p s hh h⟩
  | update a _ f k ih => intro Q E p s hh h; exact ⟨h.1, ih () Q E p { s with heap := s.heap.update a f } hh h.2⟩
  | loadIfAlive a k ih => intro Q E p s hh h; exact ih _ Q E p s hh h
  | point _ k ih => intro Q E p s hh h; exact ih () Q E p s hh h
  | register _ _ => intro Q E p s _ h; exact h
  | alloc o k ih => intro Q E p s hh h; exact ih _ Q E p { s with heap := s.heap.push o } hh h
  | fresh k ih => intro Q E p s hh h; exact ih _ Q E p { s with toks := s.toks + 1 } hh h
  | ask k ih => intro Q E p s hh h; exact ih _ Q E p s hh h
  | choose src m k ih => intro Q E p s hh h; exact ⟨h.1, ih _ Q E p { s with drawn := s.drawn.bump src } hh h.2⟩
  | os q _ k ih => intro Q E p s hh h; exact ih _ Q E p { s with os := (Os.step s.os q).1 } hh h
  | call c hd _ _ k ih =>
    intro Q E p s hh h
    obtain ⟨r, s', hr, h⟩ := h
    obtain ⟨a, _, c⟩ := runs hr hh rfl
    exact ⟨r, wh G0 s', c, ih r Q E p s' a h⟩
  | handled own k ih => intro Q E p s hh h; exact ih _ Q E p s hh h
  | genState g k ih =>
    intro Q E p s hh h
    obtain ⟨st, hs, h⟩ := h
    rcases hh.get hs with ⟨y, hy, ha, rfl, hz⟩ | ⟨hn, hz⟩
    · rw [deaf_seen] at h
      exact ⟨y, hz, ih _ Q E p s hh h⟩
    · exact ⟨st, hz, ih _ Q E p s hh h⟩
  | newGen c k ih =>
    intro Q E p s hh h
    obtain ⟨h1, e1⟩ := hh.push (c := c)
    have z := ih _ Q E p { s with gens := s.gens.push (.fresh c) } h1 h
    show wp M Γ (k (heal G0 s.gens).size) _ _ p { s with gens := (heal G0 s.gens).push (.fresh c) }
    rw [heal_size, ← e1]
    exact z
  | resume g r _ k ih =>
    intro Q E p s hh h
    obtain ⟨res, s', hw, h⟩ := h
    obtain ⟨a, b⟩ := wakes hw hh
    exact ⟨res, wh G0 s', b, ih res Q E p s' a h⟩
  | yield _ _ _ _ => intro Q E p s _ h; exact h
  | stack k ih => intro Q E p s hh h; exact ih _ Q E p s hh h
  | fork _ _ => intro Q E p s _ h; exact h
  | thread k ih => intro Q E p s hh h; exact ih _ Q E p s hh h
  | await _ _ _ _ _ => intro Q E p s _ h; exact h
/-- all sleeping generators made deaf -/
abbrev hush (s : Shared) : Shared := { s with gens := s.gens.map deaf }
/-- what sleeps, sleeps on -/
def KeptG (G G' : Array GenState) : Prop := ∀ (i : Nat) (y : GenState), G[i]? = some y → asleep y = true → G'[i]? = some y
theorem KeptG.refl (G : Array GenState) : KeptG G G := fun _ _ e _ => e
theorem KeptG.trans {G G1 G2 : Array GenState} (a : KeptG G G1) (b : KeptG G1 G2) : KeptG G G2 := fun i y e q => b i y (a i y e q) q
theorem kept_heal {G0 G : Array GenState} (h : Hid G0 G) : KeptG G0 (heal G0 G) := fun i y e q => by
  rw [heal_get, h.put i y e q, e]
  simp [q]
open PyProof.Rows in
theorem bare_hush {G : Array GenState} (h : AllBare G) : AllBare (G.map deaf) := fun y hy => by
  obtain ⟨x, hx, rfl⟩ := Array.mem_map.mp hy
  rw [deaf_bare]
  exact h x hx
open PyProof.Rows in
theorem bare_heal {G0 G : Array GenState} (h0 : AllBare G0) (h : AllBare G) : AllBare (heal G0 G) := fun y hy => by
  obtain ⟨i, hi, e⟩ := Array.mem_iff_getElem.mp hy
  have e : (heal G0 G)[i]? = some y := by rw [Array.getElem?_eq_getElem hi, e]
  rw [heal_get] at e
  cases z : G[i]? with
  | none => rw [z] at e; cases e
  | some x =>
    rw [z] at e
    have e := Option.some.inj e
    cases q : G0[i]? with
    | none => rw [q] at e; dsimp only at e; rw [← e]; exact h x (Array.mem_of_getElem? z)
    | some u =>
      rw [q] at e
      dsimp only at e
      by_cases w : asleep u = true
      · rw [if_pos w] at e; rw [← e]; exact h0 u (Array.mem_of_getElem? q)
      · rw [if_neg w] at e; rw [← e]; exact h x (Array.mem_of_getElem? z)
/-- THE RULE: what is shown with all sleeping generators deaf, holds, and they sleep on -/
theorem wpAny_kept {α : Type} {M : Model} {A : Around} {t : Sem α} {Q : α → Shared → Prop} {E : Value → Shared → Prop} {s : Shared} (h : wpAny M A t Q E (hush s)) :
    wpAny M A t (fun a s' => ∃ s1, s' = wh s.gens s1 ∧ Hid s.gens s1.gens ∧ Q a s1) (fun e s' => ∃ s1, s' = wh s.gens s1 ∧ Hid s.gens s1.gens ∧ E e s1) s := fun Γ p hΓ => by
  have z := wps M s.gens Γ t _ _ p (hush s) (hid0 trivial) (h Γ p hΓ)
  have e : wh s.gens (hush s) = s := by
    show { s with gens := heal s.gens (s.gens.map deaf) } = s
    rw [heal0]
  rw [e] at z
  exact z
end Fz

set_option Elab.async false
set_option linter.all false
set_option maxRecDepth 100000
set_option maxHeartbeats 1000000
/-! Mi: a generator's frame: asleep, awake. -/
namespace Mi
open PySem PySem.Spec L2 PyProof.Rows Fz
/-! ### generators' states changed -/
theorem _root_.L2.Inv.genz {X : Cx} {pins : List (Addr × Obj)} {σ : L2.St} {H : Hp} {s : Shared} {G : Array GenState} (I : Inv X pins σ H s) (h : AllBare G) : Inv X pins σ H { s with gens := G } :=
  ⟨I.ok, I.os, h, I.base, I.loc, I.cell, I.free, I.freeC, I.pin, I.hok, I.len⟩
theorem _root_.L2.Inv.hush {X : Cx} {pins : List (Addr × Obj)} {σ : L2.St} {H : Hp} {s : Shared} (I : Inv X pins σ H s) : Inv X pins σ H (hush s) := I.genz (bare_hush I.bare)
theorem _root_.L2.Inv.wh {X : Cx} {pins : List (Addr × Obj)} {σ : L2.St} {H : Hp} {s : Shared} {G0 : Array GenState} (I : Inv X pins σ H s) (h : AllBare G0) : Inv X pins σ H (wh G0 s) := I.genz (bare_heal h I.bare)
section
variable {X : Cx} {pins : List (Addr × Obj)} {σ : L2.St} {H : Hp} {s : Shared}
/-- what is shown of any table of generators: the sleeping ones are kept -/
theorem keep_of {α : Type} {A : Around} {t : Sem α} {B : α → Shared → Prop} {P : α → Shared → Prop} (h : wpAny (model X.prog X.w) A t P (fun _ _ => False) (hush s))
    (hq : ∀ a s1, P a s1 → Hid s.gens s1.gens → B a (wh s.gens s1)) : wpAny (model X.prog X.w) A t B (fun _ _ => False) s :=
  wpAny_mono (wpAny_kept h) (fun a s' ⟨s1, e, hd, p⟩ => by subst e; exact hq a s1 p hd) fun e s' ⟨_, _, _, z⟩ => z
theorem keptG_wh {G0 : Array GenState} {s1 : Shared} (h : Hid G0 s1.gens) : KeptG G0 (wh G0 s1).gens := kept_heal h
end
/-! ### a root in an older part of the heap -/
def cutH (n : Nat) (H : Hp) : Hp := fun a => if a < n then H a else none
def cutS (n : Nat) (s : Shared) : Shared := { s with heap := ⟨s.heap.objs.extract 0 n, s.heap.life⟩ }
theorem cutH_lt {n : Nat} {H : Hp} {a : Addr} (h : a < n) : cutH n H a = H a := if_pos h
theorem cutH_ge {n : Nat} {H : Hp} {a : Addr} (h : ¬ a < n) : cutH n H a = none := if_neg h
theorem cutS_size {n : Nat} {s : Shared} (h : n ≤ s.heap.objs.size) : (cutS n s).heap.objs.size = n := by
  show (s.heap.objs.extract 0 n).size = n
  rw [Array.size_extract]
  omega
theorem cutS_get {n : Nat} {s : Shared} {a : Addr} (h : a < n) : (cutS n s).heap.get? a = s.heap.get? a := by
  have e : (s.heap.objs.extract 0 n)[a]? = s.heap.objs[a]? := by
    rw [Array.getElem?_extract]
    by_cases q : a < s.heap.objs.size
    · have : a < min n s.heap.objs.size - 0 := Nat.lt_min.mpr ⟨h, q⟩
      rw [if_pos this]; simp
    · have : ¬ a < min n s.heap.objs.size - 0 := fun z => q (Nat.lt_min.mp z).2
      rw [if_neg this]
      exact (Array.getElem?_eq_none (Nat.le_of_not_lt q)).symm
  unfold Heap.get?
  show (match (s.heap.objs.extract 0 n)[a]? with | some ⟨_, _, .freed, _⟩ => none | o => o) = _
  rw [e]
  rfl
theorem cutS_some {n : Nat} {s : Shared} {a : Addr} {o : Obj} (h : (cutS n s).heap.get? a = some o) : a < n ∧ s.heap.get? a = some o := by
  have l : a < n := by
    have := Heap.lt_size h
    have q : (cutS n s).heap.objs.size ≤ n := by
      show (s.heap.objs.extract 0 n).size ≤ n
      rw [Array.size_extract]; omega
    exact Nat.lt_of_lt_of_le this q
  exact ⟨l, by rw [← cutS_get l]; exact h⟩
theorem funs_cut {n : Nat} {s : Shared} {base : Heap} : ∀ {l : List Env}, (∀ b ∈ frs l, b < n) → s.heap.FunFrames base l → (cutS n s).heap.FunFrames base l
  | [], _, _ => trivial
  | e :: l, hb, ⟨h1, ⟨L, o, h2, h3, h4, h5⟩, h6⟩ => by
    have hL : L < n := hb L (by unfold frs; rw [List.filterMap_cons, h2]; exact List.mem_cons_self)
    refine ⟨h1, ⟨L, o, h2, h3, by rw [cutS_get hL]; exact h4, h5⟩, funs_cut (fun b m => hb b ?_) h6⟩
    unfold frs at m ⊢
    rw [List.filterMap_cons, h2]
    exact List.mem_cons_of_mem _ m

/-- a generator def's frame; A: around it when it is awake -/
structure GD where
  prog : Program
  w : World
  K : PySem.W.Frag
  mg : Str → Option Value
  base : Heap
  N : List Str
  qual : Str
  scope : Scope
  f : Addr
  cd : Value
  L : Addr
  A : Around
  outer : List Env
  gn : Nat
  Z0 : List Addr
  ga : Addr
  go : Obj
def GD.env (U : GD) : Env := envOfC U.qual U.scope U.L U.f U.cd
def GD.cx (U : GD) (s0 : Shared) (H0 : Hp) : Cx where
  prog := U.prog
  w := U.w
  K := U.K
  mg := U.mg
  base := U.base
  A := U.A.deeper U.env
  N := U.N
  s_0 := s0
  H_0 := H0
  env := U.env
  outer := U.outer
  stack := U.env :: U.outer
  ex := []
  calm := true
  fn := fun _ => true
  pn := []
  xe := fun _ _ => False
structure GOk (U : GD) : Prop where
  kind : U.scope.kind = .function
  nc : ∀ y ∈ U.scope.names, y.2 ≠ .cell ∧ y.2 ≠ .free
  hd : U.A.handled = none
  fr : U.A.frames = some U.outer
  old : ∀ b ∈ frs U.outer, b < U.L
  bsz : U.base.objs.size ≤ U.L
  zL : U.L ∈ U.Z0
  zge : ∀ b ∈ U.Z0, U.L ≤ b
theorem cells_none : ∀ {ns : List (Str × NameKind)} {n : Nat}, (∀ y ∈ ns, y.2 ≠ .cell) → cellsFrom n ns [] = []
  | [], _, _ => rfl
  | (x, k) :: r, n, h => by
    have q : (k == NameKind.cell) = false := by
      have := h (x, k) List.mem_cons_self
      cases k <;> first | rfl | exact (this rfl).elim
    unfold cellsFrom
    rw [if_neg (by rw [q]; exact Bool.false_ne_true)]
    exact cells_none fun y m => h y (List.mem_cons_of_mem _ m)
theorem GOk.cells {U : GD} (o : GOk U) : U.env.cells = [] := cells_none fun y m => (o.nc y m).1
theorem GOk.nocell {U : GD} (o : GOk U) {x : Str} {c : Addr} : U.env.cells.lookup x ≠ some c := by
  rw [o.cells]
  exact fun z => by cases z
theorem GOk.nokind {U : GD} (o : GOk U) {x : Str} : ¬ (U.env.kindOf x = some .cell ∨ U.env.kindOf x = some .free) := fun z => by
  rcases z with z | z
  · exact (o.nc _ (PySem.mem_of_lookup z)).1 rfl
  · exact (o.nc _ (PySem.mem_of_lookup z)).2 rfl

/-- how a generator was woken last: the state, what is tracked, its worlds, what is its own (objects, inner generators) -/
structure Wk where
  s : Shared
  H : Hp
  F : Addr → Prop
  A : List Addr
  Z : List Addr
  Zg : List Nat
abbrev Wk.wd (k : Wk) : Wd := ⟨k.F, k.H, k.A⟩
def isCell (o : Obj) : Bool := match o.data with
  | .cell _ => true
  | _ => false
theorem isCell_no {o : Obj} (h : isCell o = false) : ∀ v, o.data ≠ .cell v := fun v z => by
  unfold isCell at h
  rw [z] at h
  cases h
/-- the young objects of others -/
def yng (U : GD) (k : Wk) : List (Addr × Obj) := (List.range k.s.heap.objs.size).filterMap fun b => match k.s.heap.get? b with
  | some o => if U.L ≤ b ∧ (k.H b).isNone = true ∧ b ∉ k.Z ∧ isCell o = false then some (b, o) else none
  | none => none
theorem mem_yng {U : GD} {k : Wk} {p : Addr × Obj} : p ∈ yng U k ↔ k.s.heap.get? p.1 = some p.2 ∧ U.L ≤ p.1 ∧ k.H p.1 = none ∧ p.1 ∉ k.Z ∧ isCell p.2 = false := by
  unfold yng
  rw [List.mem_filterMap]
  constructor
  · rintro ⟨b, _, e⟩
    cases q : k.s.heap.get? b with
    | none => rw [q] at e; cases e
    | some o =>
      rw [q] at e
      dsimp only at e
      split at e
      · rename_i h
        cases e
        exact ⟨q, h.1, by simpa using h.2.1, h.2.2.1, h.2.2.2⟩
      · cases e
  · rintro ⟨h1, h2, h3, h4, h5⟩
    refine ⟨p.1, List.mem_range.mpr (Heap.lt_size h1), ?_⟩
    rw [h1]
    dsimp only
    rw [if_pos ⟨h2, by rw [h3]; rfl, h4, h5⟩]
/-- young cells: they may be others' -/
def ycl (U : GD) (k : Wk) : List Addr := (List.range k.s.heap.objs.size).filter fun b => match k.s.heap.get? b with
  | some o => decide (U.L ≤ b) && isCell o
  | none => false
theorem mem_ycl {U : GD} {k : Wk} {b : Addr} : b ∈ ycl U k ↔ U.L ≤ b ∧ ∃ o, k.s.heap.get? b = some o ∧ isCell o = true := by
  unfold ycl
  rw [List.mem_filter]
  constructor
  · rintro ⟨_, e⟩
    cases q : k.s.heap.get? b with
    | none => rw [q] at e; cases e
    | some o =>
      rw [q] at e
      simp only [Bool.and_eq_true, decide_eq_true_eq] at e
      exact ⟨e.1, o, rfl, e.2⟩
  · rintro ⟨h1, o, h2, h3⟩
    refine ⟨List.mem_range.mpr (Heap.lt_size h2), ?_⟩
    rw [h2]
    simp [h1, h3]

/-- what an owner of a sleeping frame's may be: a list, a dict -/
def OwL : Option HO → Prop
  | some (.lst _) => True
  | some (.dK _) => True
  | _ => False
theorem OwL.mut {x : Option HO} (h : OwL x) : Mut x := by
  unfold OwL at h
  split at h <;> first | trivial | exact h.elim
/-- what own objects are: lists, dicts, instances -/
def OwH (w : Wd) : Prop := (∀ a ∈ w.A, ¬ w.F a ∧ Mut (w.H a)) ∧ ∀ a, w.F a → w.H a ≠ none
/-- awake (or just going to sleep) -/
structure GSt (U : GD) (k : Wk) (ip : List (Addr × Obj)) (Zg : List Nat) (σ : L2.St) (w : Wd) (s : Shared) : Prop where
  inv : Inv (U.cx (cutS U.L k.s) (cutH U.L k.H)) (yng U k ++ ip) σ w.H s
  ext : Ext k.wd w
  own : OwH k.wd
  ips : ∀ p ∈ ip, U.L ≤ p.1 ∧ (p.1 ∈ k.Z ∨ ∀ q ∈ yng U k, q.1 ≠ p.1)
  hL : U.L ∈ k.Z ∧ ∀ b ∈ k.Z, U.L ≤ b
  gen : ∀ (i : Nat) (y : GenState), k.s.gens[i]? = some y → asleep y = true → i ∉ k.Zg → s.gens[i]? = some y
  zg : ∀ i ∈ Zg, (i ∈ k.Zg ∨ k.s.gens.size ≤ i) ∧ i ≠ U.gn
  lt : U.L < k.s.heap.objs.size
  self : (U.ga, U.go) ∈ ip
/-- the one who wakes it has kept what is its own -/
structure Wake (U : GD) (ip : List (Addr × Obj)) (Zg : List Nat) (w : Wd) (s : Shared) (k : Wk) : Prop where
  env0 : Env0 U.prog U.w U.K U.mg U.base U.A U.outer k.s k.H
  pin : ∀ p ∈ ip, k.s.heap.get? p.1 = some p.2 ∧ k.H p.1 = none
  loc : (∀ o, s.heap.get? U.L = some o → k.s.heap.get? U.L = some o) ∧ k.H U.L = none
  f : ∀ a, w.F a → k.F a
  h : ∀ a o, w.F a ∨ a ∈ w.A → w.H a = some o → k.H a = some o
  nf : ∀ a ∈ w.A, ¬ k.F a
  fd : ∀ a, k.F a → k.H a ≠ none
  a : k.A = w.A
  z : k.Z = U.Z0 ++ ip.map (·.1)
  zg : k.Zg = Zg
  gens : ∀ (i : Nat) (y : GenState), s.gens[i]? = some y → asleep y = true → i ≠ U.gn → k.s.gens[i]? = some y
section
variable {c : Cn} {U : GD} {k k' : Wk} {ip : List (Addr × Obj)} {Zg : List Nat} {σ : L2.St} {w : Wd} {s : Shared} {fr : List Slot}
theorem Own.mut {d : Mi.D} {sub : List Nat} {a : Addr} {bs : List Addr} (r : Own c w.F w.H d sub a bs) : ∀ b ∈ a :: bs, Mut (w.H b) := by
  have gen : ∀ {ns ds vs i sub bs}, OwnF c w.F w.H ns ds vs i sub bs → ∀ b ∈ bs, Mut (w.H b) := by
    intro ns ds vs i sub bs r
    induction r with
    | nil => intro b m; cases m
    | fz _ _ _ ih => exact ih
    | ow _ h _ _ ih =>
      intro b m
      rcases List.mem_cons.mp m with e | m
      · rw [e, h]; trivial
      · exact ih b m
  cases r with
  | lst h r => intro b m; rw [List.mem_singleton.mp m, h]; trivial
  | dic h r => intro b m; rw [List.mem_singleton.mp m, h]; trivial
  | ins h r =>
    intro b m
    rcases List.mem_cons.mp m with e | m
    · rw [e, h]; trivial
    · exact gen r b m
theorem SRel.mut {F : Addr → Prop} {H : Hp} {A : List Addr} (r : SRel c F H fr σ A) : ∀ b ∈ A, Mut (H b) := by
  induction r with
  | nil => intro b m; cases m
  | emp _ ih => exact ih
  | fz _ _ ih => exact ih
  | @ow d sub a bs _ _ A h _ ih =>
    intro b m
    rw [← List.cons_append] at m
    rcases List.mem_append.mp m with m | m
    · exact Own.mut (w := ⟨F, H, []⟩) h b m
    · exact ih b m
theorem SR.owh (S : SR c w fr σ) : OwH w := ⟨fun a m => ⟨S.nf a m, S.rel.mut a m⟩, S.fd⟩
theorem cx_ok (o : GOk U) (e : Env0 U.prog U.w U.K U.mg U.base U.A U.outer k.s k.H) (lt : U.L < k.s.heap.objs.size) : (U.cx (cutS U.L k.s) (cutH U.L k.H)).Ok := by
  have sz := cutS_size (Nat.le_of_lt lt)
  refine ⟨e.mod, o.kind, rfl, rfl, by show (cutS U.L k.s).heap.objs.size ≤ U.L; rw [sz]; exact Nat.le_refl _, fun x y c h => (o.nocell h).elim, fun x h => (o.nokind h).elim, fun x c _ h => (o.nocell h).elim, fun _ => o.hd, Around.frames_deeper o.fr, .inr ⟨rfl, rfl⟩,
    fun b m => (by cases m), fun b ob h => ?_, by show U.base.objs.size ≤ (cutS U.L k.s).heap.objs.size; rw [sz]; exact o.bsz, fun b _ _ m => (by cases m), fun b m => (by cases m), funs_cut o.old e.funs, fun b m => ?_⟩
  · have l : b < U.L := Nat.lt_of_lt_of_le (Heap.lt_size h) o.bsz
    obtain ⟨h1, h2⟩ := e.bs b ob h
    exact ⟨by show (cutS U.L k.s).heap.get? b = _; rw [cutS_get l]; exact h1, by show cutH U.L k.H b = none; rw [cutH_lt l]; exact h2⟩
  · show cutH U.L k.H b = none
    rw [cutH_lt (o.old b m)]
    exact e.frf b m
theorem GSt.make (o : GOk U) (e : Env0 U.prog U.w U.K U.mg U.base U.A U.outer k.s k.H) (hloc : ∃ m, k.s.heap.Ns U.L m ∧ ∀ (i : Nat) (x : Str) (v : V), U.N[i]? = some x → σ[i]? = some (some v) → Vis U.scope x → ∃ u, RelV v u ∧ Look U.env k.s.heap m x u) (hlen : σ.length = U.N.length) (hL : k.H U.L = none)
    (hp : ∀ p ∈ ip, k.s.heap.get? p.1 = some p.2 ∧ k.H p.1 = none ∧ p.1 ≠ U.L ∧ p.1 ∉ frs U.outer ∧ (∀ v, p.2.data ≠ .cell v) ∧ U.L ≤ p.1) (hz : k.Z = U.Z0 ++ ip.map (·.1)) (hzg : ∀ i ∈ k.Zg, i ≠ U.gn) (ow : OwH k.wd) (hself : (U.ga, U.go) ∈ ip) : GSt U k ip k.Zg σ k.wd k.s := by
  obtain ⟨m, hn, hl⟩ := hloc
  have lt : U.L < k.s.heap.objs.size := hn.lt
  have ipZ : ∀ p ∈ ip, p.1 ∈ k.Z := fun p m => by rw [hz]; exact List.mem_append_right _ (List.mem_map.mpr ⟨p, m, rfl⟩)
  refine ⟨⟨cx_ok o e lt, rfl, e.bare, ⟨fun b ob e n _ _ => ?_, fun b ob e n _ _ => ?_, fun b ob e n _ => ?_, fun b ob e _ => ?_, fun b xs e => ?_, fun b ob u e => ?_, fun b ps e => ?_⟩, ⟨m, hn, hl⟩, fun x c e => (o.nocell e).elim, hL, fun x c e => (o.nocell e).elim, fun p h => ?_, e.hok, hlen⟩,
    Ext.refl _, ow, fun p m => ⟨(hp p m).2.2.2.2.2, .inl (ipZ p m)⟩, ⟨by rw [hz]; exact List.mem_append_left _ o.zL, fun b m => ?_⟩, fun i y e _ _ => e, fun i m => ⟨.inl m, hzg i m⟩, lt, hself⟩
  · exact (cutS_some e).2
  · exact ⟨ob.slots, (cutS_some e).2⟩
  · have := (cutS_some e).1
    have n : cutH U.L k.H b = none := n
    rw [cutH_lt this] at n
    exact n
  · exact ⟨ob, (cutS_some e).2⟩
  · have e : cutH U.L k.H b = _ := e
    unfold cutH at e
    split at e
    · exact e
    · cases e
  · have e : cutH U.L k.H b = _ := e
    unfold cutH at e
    split at e
    · exact e
    · cases e
  · have e : cutH U.L k.H b = _ := e
    unfold cutH at e
    split at e
    · exact ⟨#[], by rw [Array.append_empty]; exact e⟩
    · cases e
  · have h : p ∈ yng U k ++ ip := h
    rcases List.mem_append.mp h with h | h
    · obtain ⟨h1, h2, h3, h4, h5⟩ := mem_yng.mp h
      refine ⟨h1, h3, fun z => h4 ?_, fun z => ?_, isCell_no h5⟩
      · have z : p.1 = U.L := z
        rw [z, hz]; exact List.mem_append_left _ o.zL
      · exact absurd (o.old p.1 z) (Nat.not_lt.mpr h2)
    · obtain ⟨h1, h2, h3, h4, h5, _⟩ := hp p h
      exact ⟨h1, h2, h3, h4, h5⟩
  · rw [hz] at m
    rcases List.mem_append.mp m with m | m
    · exact o.zge b m
    · obtain ⟨p, h, e⟩ := List.mem_map.mp m
      rw [← e]; exact (hp p h).2.2.2.2.2
/-- it is woken -/
theorem GSt.wake (o : GOk U) (g : GSt U k ip Zg σ w s) (hw : OwH w) (h : Wake U ip Zg w s k') : GSt U k' ip Zg σ k'.wd k'.s := by
  obtain ⟨m, hn, hl⟩ := g.inv.loc
  have hn : s.heap.Ns U.L m := hn
  have z := GSt.make (k := k') (ip := ip) (σ := σ) o h.env0 ⟨m, hn.at' fun o e => h.loc.1 o e, fun i x v e1 e2 e3 => ?_⟩ g.inv.len h.loc.2 (fun p hp => ?_) h.z (fun i m => ?_) ⟨fun a m => ?_, h.fd⟩ g.self
  · rw [h.zg] at z
    exact z
  · obtain ⟨u, r, l⟩ := hl i x v e1 e2 e3
    refine ⟨u, r, ?_⟩
    rcases l with l | ⟨_, cc, e, _⟩
    · exact .inl l
    · exact (o.nocell e).elim
  · obtain ⟨_, h2, h3, h4, h5⟩ := g.inv.pin p (List.mem_append_right _ (List.mem_append_right _ hp))
    exact ⟨(h.pin p hp).1, (h.pin p hp).2, h3, h4, h5, (g.ips p hp).1⟩
  · rw [h.zg] at m
    exact (g.zg i m).2
  · have m : a ∈ k'.A := m
    rw [h.a] at m
    refine ⟨h.nf a m, ?_⟩
    have q := (hw.1 a m).2
    show Mut (k'.H a)
    cases e : w.H a with
    | none => rw [e] at q; exact q.elim
    | some u => rw [h.h a u (.inr m) e, ← e]; exact q
theorem SR.woken (S : SR c w fr σ) (h : Wake U ip Zg w s k') : SR c k'.wd fr σ where
  rel := by
    show SRel c k'.F k'.H fr σ k'.A
    rw [h.a]
    exact S.rel.mono h.f (fun a o f e => h.h a o (.inl f) e) fun a o m e => h.h a o (.inr m) e
  nd := by show k'.A.Nodup; rw [h.a]; exact S.nd
  nf := fun a m => by have m : a ∈ k'.A := m; rw [h.a] at m; exact h.nf a m
  fd := h.fd
/-- what the one who woke it finds -/
theorem GSt.un (g : GSt U k ip Zg σ w s) : Un (frs U.outer) (k.Z ++ ycl U k) k.H w.H k.s.heap s.heap := by
  have B := g.inv.base
  have kept : ∀ b, ¬ b < U.L → ∀ o, k.s.heap.get? b = some o → k.H b = none → b ∉ k.Z ++ ycl U k → s.heap.get? b = some o ∧ w.H b = none := fun b l o e n hx => by
    have l : U.L ≤ b := Nat.le_of_not_lt l
    have nc : isCell o = false := by
      cases q : isCell o with
      | false => rfl
      | true => exact (hx (List.mem_append_right _ (mem_ycl.mpr ⟨l, o, e, q⟩))).elim
    have z := g.inv.pin (b, o) (List.mem_append_right _ (List.mem_append_left _ (mem_yng.mpr ⟨e, l, n, fun m => hx (List.mem_append_left _ m), nc⟩)))
    exact ⟨z.1, z.2.1⟩
  have young : ∀ b, ¬ b < U.L → ∀ u, k.H b = some u → b ∉ k.A → w.H b = some u := fun b l u e n => g.ext.h b u e n
  have noA : ∀ b u, k.H b = some u → ¬ Mut (some u) → b ∉ k.A := fun b u e n m => n (by rw [← e]; exact (g.own.1 b m).2)
  refine ⟨fun b o e n hb hx => ?_, fun b o e n hb hx => ?_, fun b o e n hx => ?_, fun b o e hx => ?_, fun b xs e => ?_, fun b o u e => ?_, fun b ps e => ?_⟩
  · by_cases l : b < U.L
    · exact B.keep b o (by show (cutS U.L k.s).heap.get? b = _; rw [cutS_get l]; exact e) (by show cutH U.L k.H b = _; rw [cutH_lt l]; exact n) hb (by show b ∉ ([] : List Addr); simp)
    · exact (kept b l o e n hx).1
  · by_cases l : b < U.L
    · exact B.slot b o (by show (cutS U.L k.s).heap.get? b = _; rw [cutS_get l]; exact e) (by show cutH U.L k.H b = _; rw [cutH_lt l]; exact n) hb (by show b ∉ ([] : List Addr); simp)
    · exact ⟨o.slots, (kept b l o e n hx).1⟩
  · by_cases l : b < U.L
    · exact B.free b o (by show (cutS U.L k.s).heap.get? b = _; rw [cutS_get l]; exact e) (by show cutH U.L k.H b = _; rw [cutH_lt l]; exact n) (by show b ∉ ([] : List Addr); simp)
    · exact (kept b l o e n hx).2
  · by_cases l : b < U.L
    · exact B.there b o (by show (cutS U.L k.s).heap.get? b = _; rw [cutS_get l]; exact e) (by show b ∉ ([] : List Addr); simp)
    · cases q : k.H b with
      | none => exact ⟨o, (kept b l o e q hx).1⟩
      | some u =>
        have z : w.H b ≠ none := g.ext.d b (by show k.H b ≠ none; rw [q]; exact fun z => by cases z)
        cases q2 : w.H b with
        | none => exact (z q2).elim
        | some u' =>
          have lt := g.inv.hok.lt q2
          obtain ⟨o', e'⟩ : ∃ o', s.heap.get? b = some o' := by
            have ob := g.inv.hok b u' q2
            cases u' with
            | lst xs => obtain ⟨_, _, _, _, e⟩ := ob; exact ⟨_, e⟩
            | tup xs => obtain ⟨_, _, _, o, e, _⟩ := ob; exact ⟨_, e⟩
            | dK kvs => obtain ⟨_, _, _, _, o, _, _, e, _⟩ := ob; exact ⟨_, e⟩
            | dT kvs => obtain ⟨_, _, _, _, o, _, _, e, _⟩ := ob; exact ⟨_, e⟩
            | set S n => obtain ⟨o, _, _, _, e, _⟩ := ob; exact ⟨_, e⟩
            | ins C dx fs => obtain ⟨_, _, _, e, _⟩ := ob; exact ⟨_, e⟩
            | own y => obtain ⟨_, e⟩ := ob; exact ⟨_, e⟩
            | xd fs => obtain ⟨_, ⟨_, _, _, e, _⟩, _⟩ := ob; exact ⟨_, e⟩
            | rng lo hi => obtain ⟨_, _, _, e⟩ := ob; exact ⟨_, e⟩
            | frz o u => obtain ⟨e, _⟩ := ob; exact ⟨_, e⟩
            | tbl ps => exact ⟨_, show s.heap.get? b = some _ from ob⟩
            | met f y => exact ⟨_, show s.heap.get? b = some _ from ob⟩
            | ext φ => obtain ⟨_, ⟨_, e⟩, _⟩ := ob; exact ⟨_, e⟩
          exact ⟨o', e'⟩
  · by_cases l : b < U.L
    · exact B.tups b xs (by show cutH U.L k.H b = _; rw [cutH_lt l]; exact e)
    · exact young b l _ e (noA b _ e fun z => z)
  · by_cases l : b < U.L
    · exact B.frzs b o u (by show cutH U.L k.H b = _; rw [cutH_lt l]; exact e)
    · exact young b l _ e (noA b _ e fun z => z)
  · by_cases l : b < U.L
    · exact B.tbls b ps (by show cutH U.L k.H b = _; rw [cutH_lt l]; exact e)
    · exact ⟨#[], by rw [Array.append_empty]; exact young b l _ e (noA b _ e fun z => z)⟩
end
end Mi

set_option Elab.async false
set_option linter.all false
set_option maxRecDepth 100000
set_option maxHeartbeats 1000000
/-! Mi: statements of a generator that hand out, at the machine's level; nothing is raised. -/
namespace Mi
open PySem PySem.Spec L2 PyProof.Rows Fz
section
variable {M : Model} {A : Around} {R : GenEnd} {Y : Protocol} {n : Nat} {s₀ s : Shared} {c : Code} {fs : List Frame} {env : Env}
  {K : Flow → Sem PySem.Fin} {J : Value → Sem PySem.Fin} {gd : Bool → Bool} {lv : List Value → List Value}
/-- nothing is raised -/
theorem segN {α : Type} {m : Sem α} {K : α → Sem PySem.Fin} {J : Value → Sem PySem.Fin} (h : wpAny M (A.over c fs) m (fun a s' => Seg M A R Y n s₀ c (K a) fs s') (fun _ _ => False) s) : Seg M A R Y n s₀ c (m.wrap K J gd lv) fs s :=
  seg_wrap (wpAny_mono h (fun _ _ z => z) fun _ _ z => z.elim)
theorem segB {α β : Type} {m : Sem α} {f : α → Sem β} {K : β → Sem PySem.Fin} {J : Value → Sem PySem.Fin} (h : wpAny M (A.over c fs) m (fun a s' => Seg M A R Y n s₀ c ((f a).wrap K J gd lv) fs s') (fun _ _ => False) s) :
    Seg M A R Y n s₀ c ((m >>= f).wrap K J gd lv) fs s := by
  rw [Sem.bind_eq_wrap', Sem.wrap_wrap]
  exact segN h
theorem seg_If {test : Expr} {a b : List Stmt} {pos : Pos} (h : wpAny M (A.over c fs) (isTrue test env (eval test env)) (fun t s' => Seg M A R Y n s₀ c ((execs (if t = true then a else b) env).wrap K J gd lv) fs s') (fun _ _ => False) s) :
    Seg M A R Y n s₀ c ((exec (.If test a b pos) env).wrap K J gd lv) fs s := by
  show Seg M A R Y n s₀ c (.at pos fun _ => (isTrue test env (eval test env) >>= fun t => if t = true then execs a env else execs b env).wrap K J gd lv) fs s
  refine seg_at (segB (wpAny_mono h (fun t s' z => ?_) fun _ _ z => z))
  cases t with
  | true => rw [if_pos rfl] at z ⊢; exact z
  | false => rw [if_neg Bool.false_ne_true] at z ⊢; exact z
/-- what a loop's call hands on -/
abbrev loopK (K : Flow → Sem PySem.Fin) (J : Value → Sem PySem.Fin) (gd : Bool → Bool) (lv : List Value → List Value) (env : Env) : Result → Sem PySem.Fin := fun r =>
  ((match r with | .ok f => (.pure f : Sem Flow) | .error e => .raise e).onRaise fun (x : Value) => do
    if (← field x 1) == Value.none then unsupported "frame.own-activation:exception-without-traceback"
    setFlight x env.frame).wrap K J gd lv
theorem seg_runOwn {c' : Code} (h : ∀ p, Seg M A R Y n s₀ c' (M.den c') (.ret (loopK K J gd lv env) none (gd false) (lv []) c p [] :: fs) s) : Seg M A R Y n s₀ c ((runOwn c' env).wrap K J gd lv) fs s := seg_call h
theorem seg_For {target iter : Expr} {body : List Stmt} {pos : Pos} (hs : ∀ x, foldedSetIterable iter env x = pure x)
    (h : wpAny M (A.over c fs) (eval iter env) (fun v s1 => wpAny M (A.over c fs) (pyIter v) (fun itv s2 => ∀ p, Seg M A R Y n s₀ (.forLoop target itv body [] env) (M.den (.forLoop target itv body [] env))
      (.ret (loopK K J gd lv env) none (gd false) (lv []) c p [] :: fs) s2) (fun _ _ => False) s1) (fun _ _ => False) s) :
    Seg M A R Y n s₀ c ((exec (.For target iter body [] pos) env).wrap K J gd lv) fs s := by
  have e : exec (.For target iter body [] pos) env = (do
      standAt pos
      let x ← foldedSetIterable iter env (← eval iter env)
      standAt iter.pos
      runOwn (.forLoop target (← holding [x] (pyIter x)) body [] env) env) := rfl
  rw [e]
  refine segB (wpAny_standAt ?_)
  refine segB (wpAny_mono h (fun v s1 h1 => ?_) fun _ _ z => z)
  rw [hs]
  refine segB (wpAny_pure ?_)
  refine segB (wpAny_standAt ?_)
  refine segB (wpAny_holding (wpAny_mono h1 (fun itv s2 h2 => ?_) fun _ _ z => z))
  exact seg_runOwn h2
end
section
variable {prog : Program} {w : World} {A : Around} {R : GenEnd} {Y : Protocol} {n : Nat} {s₀ s : Shared} {fs : List Frame} {env : Env}
/-- what a turn's body hands on -/
abbrev turnK (c' : Code) : Flow → Sem PySem.Fin := fun f => match f with
  | .next | .cont => .pure (.again c')
  | .brk => .pure (.done .next)
  | .ret v => .pure (.done (.ret v))
abbrev turnJ (env : Env) : Value → Sem PySem.Fin := fun e => (do noteFrame e env; theTreesLotGoes e : Sem Unit).wrap (fun _ => .raise e) .raise id id
theorem seg_forLoop {target : Expr} {it : Value} {body : List Stmt}
    (h : wpAny (model prog w) (A.over (.forLoop target it body [] env) fs) (pyNext it) (fun r s1 => match r with
      | none => ∀ c', Seg (model prog w) A R Y n s₀ c' (.pure (.done .next)) fs s1
      | some v => wpAny (model prog w) (A.over (.forLoop target it body [] env) fs) (letOwnedTupleGo target it v) (fun _ s2 => wpAny (model prog w) (A.over (.forLoop target it body [] env) fs) (assign target env v) (fun _ s3 =>
          Seg (model prog w) A R Y n s₀ (.forLoop target it body [] env) ((execs body env).wrap (turnK (.forLoop target it body [] env)) (turnJ env) id id) fs s3) (fun _ _ => False) s2) (fun _ _ => False) s1) (fun _ _ => False) s) :
    Seg (model prog w) A R Y n s₀ (.forLoop target it body [] env) ((model prog w).den (.forLoop target it body [] env)) fs s := by
  show Seg _ A R Y n s₀ _ ((forTurn target it body [] env).onRaise (fun x => do noteFrame x env; theTreesLotGoes x)) fs s
  unfold forTurn
  rw [Sem.onRaise_eq_wrap]
  refine segB (wpAny_standAt ?_)
  refine segB (wpAny_onRaise (wpAny_mono h (fun r s1 h1 => ?_) fun _ _ z => z.elim))
  cases r with
  | none =>
    show Seg _ A R Y n s₀ _ (.pure (.again (.block [] env))) fs s1
    refine seg_again rfl ?_
    show Seg _ A R Y n s₀ (.block [] env) (((execs [] env).onRaise (fun x => do noteFrame x env; theTreesLotGoes x)) >>= fun f => pure (.done f)) fs s1
    rw [Sem.onRaise_eq_wrap, Sem.bind_eq_wrap', Sem.wrap_wrap]
    exact segN (wpAny_execs_nil (h1 _))
  | some v =>
    show Seg _ A R Y n s₀ _ ((letOwnedTupleGo target it v >>= fun _ => assign target env v >>= fun _ => execs body env >>= fun f => match f with
      | .next | .cont => again (.forLoop target it body [] env)
      | .brk => pure (.done .next)
      | .ret v => pure (.done (.ret v))).wrap _ _ _ _) fs s1
    refine segB (wpAny_mono h1 (fun _ s2 h2 => ?_) fun _ _ z => z)
    refine segB (wpAny_mono h2 (fun _ s3 h3 => ?_) fun _ _ z => z)
    rw [Sem.bind_eq_wrap', Sem.wrap_wrap]
    rw [Sem.wrap_congr (execs body env) _ _ (K' := turnK (.forLoop target it body [] env)) (H' := turnJ env) (fun f => by cases f <;> rfl)
      (fun e => by first | exact Sem.bind_eq_wrap _ _ | (show (do noteFrame e env; theTreesLotGoes e : Sem Unit).bind (fun _ => .raise e) = _; rw [Sem.bind_eq_wrap]))]
    exact h3
end
end Mi

set_option Elab.async false
set_option linter.all false
set_option maxRecDepth 100000
set_option maxHeartbeats 1000000
/-! Mi: statements of a generator. -/
namespace Mi
open PySem PySem.Spec L2 PyProof.Rows Fz
theorem hid_wp {α : Type} {M : Model} {A : Around} {t : Sem α} {Q : α → Shared → Prop} {B : α → Shared → Prop} {G0 : Array GenState} {s : Shared} (hh : Hid G0 s.gens) (h : wpAny M A t Q (fun _ _ => False) s)
    (hq : ∀ a s1, Hid G0 s1.gens → Q a s1 → B a (wh G0 s1)) : wpAny M A t B (fun _ _ => False) (wh G0 s) := fun Γ p hΓ =>
  Sem.wp_mono M Γ t (fun a _ s' ⟨s1, e, hd, q⟩ => by subst e; exact hq a s1 hd q) (fun e _ s' ⟨_, _, _, z⟩ => z) p _ (wps M G0 Γ t _ _ p s hh (h Γ p hΓ))
theorem wh_hush (s : Shared) : wh s.gens (hush s) = s := by
  show { s with gens := heal s.gens (s.gens.map deaf) } = s
  rw [heal0]
def flw : Fl → Option Flow
  | .nx => some .next
  | .brk => some .brk
  | .cnt => some .cont
  | .ret _ => none
structure GCt (U : GD) (cd : Code) (fs : List Frame) (gd : Bool → Bool) : Prop where
  over : U.A.over cd fs = U.A.deeper U.env
  split : splitAtGen fs = none
  guard : fs.any Frame.guarded = false
  gd : gd false = false
theorem SRel.owl {c : Cn} {F : Addr → Prop} {H : Hp} {fr : List Slot} {σ : L2.St} {A : List Addr} (r : SRel c F H fr σ A) : fr.all noInsS = true → ∀ b ∈ A, OwL (H b) := by
  induction r with
  | nil => intro _ b m; cases m
  | emp _ ih => intro h; exact ih (by simpa [noInsS] using h)
  | fz _ _ ih => intro h; exact ih (by simpa [noInsS] using h)
  | @ow d sub a bs fr _ A h _ ih =>
    intro hn b m
    rw [List.all_cons, Bool.and_eq_true] at hn
    rw [← List.cons_append] at m
    rcases List.mem_append.mp m with m | m
    · cases h with
      | lst h r => rw [List.mem_singleton.mp m, h]; trivial
      | dic h r => rw [List.mem_singleton.mp m, h]; trivial
      | ins h r => exact (Bool.noConfusion (show false = true from hn.1))
    · exact ih hn.2 b m
/-- with what an inner generator owns -/
abbrev wdx (w : Wd) (Ax : List Addr) : Wd := ⟨w.F, w.H, w.A ++ Ax⟩
def AxOk (w : Wd) (Ax : List Addr) : Prop := ∀ b ∈ Ax, ¬ w.F b ∧ OwL (w.H b) ∧ b ∉ w.A
theorem mut_some {x : Option HO} (h : Mut x) : x ≠ none := fun z => by rw [z] at h; exact h
theorem AxOk.ext {w w' : Wd} {Ax : List Addr} (h : AxOk w Ax) (x : Ext w w') : AxOk w' Ax := fun b m => by
  obtain ⟨h1, h2, h3⟩ := h b m
  have dm := mut_some h2.mut
  refine ⟨x.notF dm h1 h3, ?_, x.notA dm h3⟩
  cases e : w.H b with
  | none => exact (dm e).elim
  | some o => rw [x.h b o e h3, ← e]; exact h2
theorem Ext.wdx {w w' : Wd} {Ax : List Addr} (x : Ext w w') : Ext (wdx w Ax) (wdx w' Ax) where
  f := x.f
  h := fun a o e n => x.h a o e fun m => n (List.mem_append_left _ m)
  g := fun a z => (x.g a z).imp id fun q => q.imp id fun m => List.mem_append_left _ m
  a := fun b m => (List.mem_append.mp m).elim (fun m => (x.a b m).imp (fun m => List.mem_append_left _ m) id) fun m => .inl (List.mem_append_right _ m)
  d := x.d
theorem owh_wdx {c : Cn} {w : Wd} {Ax : List Addr} {fr : List Slot} {σ : L2.St} (S : SR c w fr σ) (h : AxOk w Ax) : OwH (wdx w Ax) := ⟨fun a m => (List.mem_append.mp m).elim (fun m => S.owh.1 a m) fun m => ⟨(h a m).1, (h a m).2.1.mut⟩, S.fd⟩
def YP (U : GD) (c : Cn) (C : List Mi.D → Wk → Prop) : Protocol := fun n s₀ v s kap => ∃ (d : Mi.D) (rem : List Mi.D) (k : Wk) (x : V) (w : Wd) (σ : L2.St) (ip : List (Addr × Obj)) (Zg : List Nat),
  k.s = s₀ ∧ C (d :: rem) k ∧ rem.length + 1 = n ∧ RelV x v ∧ Rep c w.F w.H d x ∧ (OwH w ∧ ∀ a ∈ w.A, OwL (w.H a)) ∧ GSt U k ip Zg σ w s ∧ ∀ k' : Wk, Wake U ip Zg w s k' → C rem k' → kap (.send .none) k'.s
def RP (U : GD) (C : List Mi.D → Wk → Prop) : GenEnd := fun n s₀ r s => (r = .ok (.ret .none) ∨ r = .ok .next) ∧ ∃ (k : Wk) (w : Wd) (σ : L2.St) (ip : List (Addr × Obj)) (Zg : List Nat), k.s = s₀ ∧ C [] k ∧ OwH w ∧ GSt U k ip Zg σ w s
abbrev SegG (c : Cn) (U : GD) (C : List Mi.D → Wk → Prop) (n : Nat) (s₀ : Shared) (cd : Code) (t : Sem PySem.Fin) (fs : List Frame) (s : Shared) : Prop := Seg (model U.prog U.w) U.A (RP U C) (YP U c C) n s₀ cd t fs s
structure At (c : Cn) (U : GD) (C : List Mi.D → Wk → Prop) (ds : List Mi.D) (ip : List (Addr × Obj)) (Zg : List Nat) (Ax : List Addr) (a : Sta) (k : Wk) (σ : L2.St) (w : Wd) (s : Shared) : Prop where
  g : GSt U k ip Zg σ (wdx w Ax) s
  S : SR c w a.fr σ
  ax : AxOk w Ax
  c : C (ds.drop a.out.length) k
/-- what is frozen stays so -/
structure FExt (w w' : Wd) : Prop where
  f : ∀ a, w.F a → w'.F a
  h : ∀ a o, w.F a → w.H a = some o → w'.H a = some o
theorem FExt.refl (w : Wd) : FExt w w := ⟨fun _ h => h, fun _ _ _ h => h⟩
theorem FExt.trans {w w1 w2 : Wd} (x : FExt w w1) (y : FExt w1 w2) : FExt w w2 := ⟨fun a h => y.f a (x.f a h), fun a o f e => y.h a o (x.f a f) (x.h a o f e)⟩
theorem FExt.of {c : Cn} {w w' : Wd} {fr : List Slot} {σ : L2.St} (S : SR c w fr σ) (x : Ext w w') : FExt w w' := ⟨x.f, S.fH x⟩
structure GS (c : Cn) (U : GD) (st : Stmt) (m : M Fl) : Prop where
  run : ∀ (C : List Mi.D → Wk → Prop) (cd : Code) (fs : List Frame) (K : Flow → Sem PySem.Fin) (J : Value → Sem PySem.Fin) (gd : Bool → Bool) (lv : List Value → List Value) (ds : List Mi.D) (ip : List (Addr × Obj)) (Zg : List Nat) (Ax : List Addr) (a : Sta) (fl : Fl) (a' : Sta) (ff : Flow),
    GCt U cd fs gd → m a = .ok fl a' → flw fl = some ff → a'.out <+: ds →
    ∀ k σ w s, At c U C ds ip Zg Ax a k σ w s → (∀ k' σ' w' s', FExt w w' → At c U C ds ip Zg Ax a' k' σ' w' s' → SegG c U C (ds.length - a'.out.length + 1) k'.s cd (K ff) fs s') → SegG c U C (ds.length - a.out.length + 1) k.s cd ((exec st U.env).wrap K J gd lv) fs s
structure GSs (c : Cn) (U : GD) (sts : List Stmt) (m : M Fl) : Prop where
  run : ∀ (C : List Mi.D → Wk → Prop) (cd : Code) (fs : List Frame) (K : Flow → Sem PySem.Fin) (J : Value → Sem PySem.Fin) (gd : Bool → Bool) (lv : List Value → List Value) (ds : List Mi.D) (ip : List (Addr × Obj)) (Zg : List Nat) (Ax : List Addr) (a : Sta) (fl : Fl) (a' : Sta) (ff : Flow),
    GCt U cd fs gd → m a = .ok fl a' → flw fl = some ff → a'.out <+: ds →
    ∀ k σ w s, At c U C ds ip Zg Ax a k σ w s → (∀ k' σ' w' s', FExt w w' → At c U C ds ip Zg Ax a' k' σ' w' s' → SegG c U C (ds.length - a'.out.length + 1) k'.s cd (K ff) fs s') → SegG c U C (ds.length - a.out.length + 1) k.s cd ((execs sts U.env).wrap K J gd lv) fs s
section
variable {c : Cn} {U : GD} {C : List Mi.D → Wk → Prop} {ds : List Mi.D} {ip : List (Addr × Obj)} {Zg : List Nat} {Ax : List Addr} {a a1 : Sta} {k : Wk} {σ σ1 : L2.St} {w w1 : Wd} {s s1 : Shared} {g : G}
/-- a step that wakes nobody -/
theorem At.step (h : At c U C ds ip Zg Ax a k σ w s) (hd : Hid s.gens s1.gens) (I : Inv (U.cx (cutS U.L k.s) (cutH U.L k.H)) (yng U k ++ ip) σ1 w1.H s1) (x : Ext w w1) (S : SR c w1 a1.fr σ1) (e : a1.out = a.out) : At c U C ds ip Zg Ax a1 k σ1 w1 (wh s.gens s1) where
  g := ⟨I.wh h.g.inv.bare, h.g.ext.trans x.wdx, h.g.own, h.g.ips, h.g.hL, fun i y q1 q2 q3 => kept_heal hd i y (h.g.gen i y q1 q2 q3) q2, h.g.zg, h.g.lt, h.g.self⟩
  S := S
  ax := h.ax.ext x
  c := by rw [e]; exact h.c
theorem Go.ofPure {α : Type} {m : M α} {x : α} (e : m a = .ok x a1) : Go c WF σ m w a fun y b _ => y = x ∧ b = a1 := by
  unfold Go
  rw [e]
  exact fun _ _ _ => ⟨rfl, rfl⟩
theorem GoS.ofPure {α : Type} {P : L2.St → Prop} {m : M α} {x : α} (e : m a = .ok x a1) : GoS c WF P m w a fun y b _ _ => y = x ∧ b = a1 := by
  unfold GoS
  rw [e]
  exact fun _ _ _ _ _ => ⟨rfl, rfl⟩
abbrev PT_ : L2.St → Prop := fun _ => True
/-- a statement that hands out nothing -/
theorem gs_plain {st : Stmt} {m : M Fl} (h : ∀ s0 H0, PS (U.cx s0 H0) st (tS c WF PT_ m)) (hn : SameO m) : GS c U st m := by
  refine ⟨fun C cd fs K J gd lv ds ip Zg Ax a fl a' ff ct e ef _ k σ w s hA hK => ?_⟩
  refine segN ?_
  rw [ct.over]
  let Rr : L2.St → Hp → Prop := fun σ' H' => ∃ w', w'.H = H' ∧ Ext w w' ∧ SR c w' a'.fr σ'
  have run := (h (cutS U.L k.s) (cutH U.L k.H)).run (yng U k ++ ip) (hush s) σ w.H { nx := fun σ' H' => ff = .next ∧ Rr σ' H', bk := fun σ' H' => ff = .brk ∧ Rr σ' H', ct := fun σ' H' => ff = .cont ∧ Rr σ' H', rt := fun _ _ => False } hA.g.inv.hush
    ⟨trivial, w, a, rfl, hA.S, (GoS.ofPure e).imp fun y b w' σ' x _ S' ⟨e1, e2⟩ => ?_⟩
  · refine keep_of (X := U.cx (cutS U.L k.s) (cutH U.L k.H)) run fun f s1 sp hd => ?_
    have eo : a'.out.length = a.out.length := by rw [hn.ok e]
    have fin : ∀ {σ' : L2.St} {H' : Hp}, Inv (U.cx (cutS U.L k.s) (cutH U.L k.H)) (yng U k ++ ip) σ' H' s1 → Rr σ' H' → SegG c U C (ds.length - a.out.length + 1) k.s cd (K ff) fs (wh s.gens s1) := fun {σ' H'} I ⟨w', eH, x, S'⟩ => by
      subst eH
      rw [← eo]
      exact hK k σ' w' _ (FExt.of hA.S x) (hA.step hd I x S' (hn.ok e))
    cases f with
    | next => obtain ⟨σ', H', I, e1, q⟩ := sp; have z := fin I q; rw [e1] at z; exact z
    | brk => obtain ⟨σ', H', I, e1, q⟩ := sp; have z := fin I q; rw [e1] at z; exact z
    | cont => obtain ⟨σ', H', I, e1, q⟩ := sp; have z := fin I q; rw [e1] at z; exact z
    | ret u => obtain ⟨_, _, _, _, _, q⟩ := sp; exact q.elim
  · subst e1 e2
    cases y with
    | nx => exact ⟨(Option.some.inj ef).symm, w', rfl, x, S'⟩
    | brk => exact ⟨(Option.some.inj ef).symm, w', rfl, x, S'⟩
    | cnt => exact ⟨(Option.some.inj ef).symm, w', rfl, x, S'⟩
    | ret r => cases ef
theorem gss_nil : GSs c U [] (evB g .nil) := by
  refine ⟨fun C cd fs K J gd lv ds ip Zg Ax a fl a' ff ct e ef _ k σ w s hA hK => ?_⟩
  unfold evB at e
  cases e
  cases ef
  exact seg_execs_nil (hK k σ w s (FExt.refl w) hA)
theorem gss_cons {st : Stmt} {r : List Stmt} {cs : CS} {cb : CB} (h1 : GS c U st (evS g cs)) (h2 : GSs c U r (evB g cb)) : GSs c U (st :: r) (evB g (.cons cs cb)) := by
  refine ⟨fun C cd fs K J gd lv ds ip Zg Ax a fl a' ff ct e ef hp k σ w s hA hK => ?_⟩
  unfold evB at e
  obtain ⟨f1, b1, e1, e2⟩ := okB e
  refine seg_execs_cons ?_
  have go : ∀ {f : Flow}, flw f1 = some f → f ≠ .next → fl = f1 ∧ a' = b1 := fun {f} q nq => by
    cases f1 with
    | nx => cases q; exact (nq rfl).elim
    | brk => cases e2; exact ⟨rfl, rfl⟩
    | cnt => cases e2; exact ⟨rfl, rfl⟩
    | ret r => cases q
  cases f1 with
  | nx =>
    have e2 : evB g cb b1 = .ok fl a' := e2
    have hp1 : b1.out <+: ds := ((po_B g cb).ok e2).trans hp
    refine h1.run C cd fs _ J gd lv ds ip Zg Ax a .nx b1 .next ct e1 rfl hp1 k σ w s hA (fun k' σ' w' s' fx hA' => ?_)
    exact h2.run C cd fs K J gd lv ds ip Zg Ax b1 fl a' ff ct e2 ef hp k' σ' w' s' hA' fun k2 σ2 w2 s2 fx2 => hK k2 σ2 w2 s2 (fx.trans fx2)
  | brk =>
    obtain ⟨rfl, rfl⟩ := go rfl (fun z => by cases z)
    cases ef
    refine h1.run C cd fs _ J gd lv ds ip Zg Ax a .brk a' .brk ct e1 rfl hp k σ w s hA (fun k' σ' w' s' fx hA' => ?_)
    exact hK k' σ' w' s' fx hA'
  | cnt =>
    obtain ⟨rfl, rfl⟩ := go rfl (fun z => by cases z)
    cases ef
    refine h1.run C cd fs _ J gd lv ds ip Zg Ax a .cnt a' .cont ct e1 rfl hp k σ w s hA (fun k' σ' w' s' fx hA' => ?_)
    exact hK k' σ' w' s' fx hA'
  | ret r => cases e2; cases ef
/-- a test first -/
theorem test_at {t : Expr} {ct : CT} {b : Bool} {B : Bool → Shared → Prop} (h : ∀ s0 H0, PT (U.cx s0 H0) t (tT c WF (evT g ct))) (e : evT g ct a = .ok b a1) (hA : At c U C ds ip Zg Ax a k σ w s)
    (hq : ∀ w1 s1, Ext w w1 → At c U C ds ip Zg Ax a1 k σ w1 s1 → B b s1) : wpAny (model U.prog U.w) (U.A.deeper U.env) (isTrue t U.env (eval t U.env)) B (fun _ _ => False) s := by
  have run := (h (cutS U.L k.s) (cutH U.L k.H)).run (yng U k ++ ip) (hush s) σ w.H (fun b' H' => b' = b ∧ ∃ w', w'.H = H' ∧ Ext w w' ∧ SR c w' a1.fr σ) hA.g.inv.hush
    ⟨w, a, rfl, hA.S, (Go.ofPure e).imp fun y b' w' x S' ⟨e1, e2⟩ => ⟨e1, w', rfl, x, by rw [← e2]; exact S'⟩⟩
  refine keep_of (X := U.cx (cutS U.L k.s) (cutH U.L k.H)) run fun b' s1 ⟨H', I, e1, w', eH, x, S'⟩ hd => ?_
  subst e1 eH
  exact hq w' _ x (hA.step hd I x S' ((so_T g ct).ok e))
theorem gs_if {t : Expr} {ct : CT} {b1 b2 : List Stmt} {ca cb : CB} {pos : Pos} (ht : ∀ s0 H0, PT (U.cx s0 H0) t (tT c WF (evT g ct))) (h1 : GSs c U b1 (evB g ca)) (h2 : GSs c U b2 (evB g cb)) : GS c U (.If t b1 b2 pos) (evS g (.ite ct ca cb)) := by
  refine ⟨fun C cd fs K J gd lv ds ip Zg Ax a fl a' ff gc e ef hp k σ w s hA hK => ?_⟩
  unfold evS at e
  obtain ⟨b, a1, e1, e2⟩ := okB e
  refine seg_If ?_
  rw [gc.over]
  refine test_at ht e1 hA fun w1 s1 x1 hA1 => ?_
  have eo : a1.out.length = a.out.length := by rw [(so_T g ct).ok e1]
  rw [← eo]
  cases b with
  | true =>
    rw [if_pos rfl] at e2 ⊢
    exact h1.run C cd fs K J gd lv ds ip Zg Ax a1 fl a' ff gc e2 ef hp k σ w1 s1 hA1 fun k2 σ2 w2 s2 fx2 => hK k2 σ2 w2 s2 ((FExt.of hA.S x1).trans fx2)
  | false =>
    rw [if_neg Bool.false_ne_true] at e2 ⊢
    exact h2.run C cd fs K J gd lv ds ip Zg Ax a1 fl a' ff gc e2 ef hp k σ w1 s1 hA1 fun k2 σ2 w2 s2 fx2 => hK k2 σ2 w2 s2 ((FExt.of hA.S x1).trans fx2)
/-- an expression first -/
theorem exp_at {e : Expr} {ce : CE} {r : R} {B : Value → Shared → Prop} (h : ∀ s0 H0, PE (U.cx s0 H0) e (tE c WF (evE g ce))) (er : evE g ce a = .ok r a1) (hA : At c U C ds ip Zg Ax a k σ w s)
    (hq : ∀ w1 s1 v u, At c U C ds ip Zg Ax a1 k σ w1 s1 → Ext w w1 → RR c w w1 σ r v → RelV v u → B u s1) : wpAny (model U.prog U.w) (U.A.deeper U.env) (eval e U.env) B (fun _ _ => False) s := by
  have run := (h (cutS U.L k.s) (cutH U.L k.H)).run (yng U k ++ ip) (hush s) σ w.H (fun v H' => ∃ w', w'.H = H' ∧ Ext w w' ∧ SR c w' a1.fr σ ∧ RR c w w' σ r v) hA.g.inv.hush
    ⟨w, a, rfl, hA.S, (Go.ofPure er).imp fun y b' w' x S' ⟨e1, e2⟩ v rr => ⟨w', rfl, x, by rw [← e2]; exact S', by rw [← e1]; exact rr⟩⟩
  refine keep_of (X := U.cx (cutS U.L k.s) (cutH U.L k.H)) run fun u s1 ⟨v, H', I, rv, w', eH, x, S', rr⟩ hd => ?_
  subst eH
  exact hq w' _ v u (hA.step hd I x S' ((so_E g ce).ok er)) x rr rv
theorem At.keep {bs : List Addr} {w0 : Wd} (h : At c U C ds ip Zg Ax a k σ w s) (x0 : Ext w0 w) (h1 : ∀ b ∈ bs, b ∈ w0.A ∨ w0.H b = none) (h2 : Free c w bs) (hk : Ext k.wd (wdx w0 Ax)) (a0 : AxOk w0 Ax) : At c U C ds ip Zg Ax a k σ (w.keep bs) s where
  g := ⟨h.g.inv, hk.trans (x0.keep h1).wdx, h.g.own, h.g.ips, h.g.hL, h.g.gen, h.g.zg, h.g.lt, h.g.self⟩
  S := h.S.keep h2
  ax := a0.ext (x0.keep h1)
  c := h.c
theorem Wake.at (o : GOk U) (h : At c U C ds ip Zg Ax a k σ w s) {k' : Wk} {ds' : List Mi.D} {b : Sta} (wk : Wake U ip Zg (wdx w Ax) s k') (e : b.fr = a.fr) (hc : C (ds'.drop b.out.length) k') : At c U C ds' ip Zg Ax b k' σ ⟨k'.F, k'.H, w.A⟩ k'.s where
  g := by
    have z := h.g.wake o (owh_wdx h.S h.ax) wk
    have e : k'.wd = wdx ⟨k'.F, k'.H, w.A⟩ Ax := by
      show (⟨k'.F, k'.H, k'.A⟩ : Wd) = _
      rw [wk.a]
    rw [e] at z
    exact z
  S := by
    rw [e]
    exact ⟨h.S.rel.mono wk.f (fun a o f e => wk.h a o (.inl f) e) fun a o m e => wk.h a o (.inr (List.mem_append_left _ m)) e, h.S.nd, fun b m => wk.nf b (List.mem_append_left _ m), wk.fd⟩
  ax := fun b m => by
    obtain ⟨h1, h2, h3⟩ := h.ax b m
    refine ⟨wk.nf b (List.mem_append_right _ m), ?_, h3⟩
    cases q : w.H b with
    | none => exact (mut_some h2.mut q).elim
    | some u =>
      show OwL (k'.H b)
      rw [wk.h b u (.inr (List.mem_append_right _ m)) q, ← q]; exact h2
  c := hc
theorem drop_at {ds out : List Mi.D} {d : Mi.D} (h : out ++ [d] <+: ds) : ds.drop out.length = d :: ds.drop (out ++ [d]).length ∧ ds.length - out.length = (ds.length - (out ++ [d]).length) + 1 := by
  obtain ⟨t, rfl⟩ := h
  constructor
  · rw [List.append_assoc, List.drop_left]
    simp
  · simp only [List.length_append, List.length_singleton]
    omega
theorem noInt (o : GOk U) : interactive U.env = false := by
  unfold interactive
  have : U.env.scope.kind = .function := o.kind
  simp [this]
/-- yield e -/
theorem gs_yield (o : GOk U) {e : Expr} {ce : CE} {yp pos : Pos} (he : ∀ s0 H0, PE (U.cx s0 H0) e (tE c WF (evE g ce))) (hco : U.scope.isCoroutine = false) : GS c U (.Expr (.Yield (some e) yp) pos) (evS g (.yld ce)) := by
  refine ⟨fun C cd fs K J gd lv ds ip Zg Ax a fl a' ff gc eq ef hp k σ w s hA hK => ?_⟩
  unfold evS at eq
  obtain ⟨r, a1, e1, eq⟩ := okB eq
  obtain ⟨d, a2, e2, eq⟩ := okB eq
  obtain ⟨_, a3, e3, eq⟩ := okB eq
  cases eq
  cases ef
  have hkr : keepR r = some d ∧ a2 = a1 := by
    unfold keepM at e2
    cases q : keepR r with
    | none => rw [q] at e2; cases e2
    | some d' => rw [q] at e2; cases e2; exact ⟨rfl, rfl⟩
  obtain ⟨hkr, rfl⟩ := hkr
  have e3' : a2.fr.all noInsS = true ∧ a' = { a2 with out := a2.out ++ [d] } := by
    unfold yldM at e3
    split at e3
    · rename_i q
      cases e3
      exact ⟨q.2, rfl⟩
    · cases e3
  obtain ⟨hni, e3'⟩ := e3'
  subst e3'
  have eo : a2.out = a.out := (so_E g ce).ok e1
  have hp' : a.out ++ [d] <+: ds := by rw [← eo]; exact hp
  obtain ⟨q1, q2⟩ := drop_at hp'
  refine seg_Expr_Yield (env := U.env) gc.split gc.gd gc.guard ?_ hco (noInt o)
  rw [gc.over]
  refine wpAny_mono (exp_at he e1 hA fun w1 s1 v u hA1 x rr rv => ?_) (fun _ _ z => z) fun _ _ z => z.elim
  intro kap hk
  obtain ⟨bs, b1, b2, b3⟩ := rr.kept x hA1.S hkr
  have hA2 := hA1.keep x b1 b2 hA.g.ext hA.ax
  have hc := hA2.c
  rw [eo, q1] at hc
  refine ⟨d, ds.drop (a.out ++ [d]).length, k, v, wdx (w1.keep bs) Ax, σ, ip, Zg, rfl, hc, by rw [List.length_drop, ← q2], rv, b3, ⟨owh_wdx hA2.S hA2.ax, fun b m => (List.mem_append.mp m).elim (fun m => hA2.S.rel.owl hni b m) fun m => (hA2.ax b m).2.1⟩, hA2.g, fun k' wk hC => hk .none k'.s ?_⟩
  have z := hK k' σ ⟨k'.F, k'.H, (w1.keep bs).A⟩ k'.s ((FExt.of hA.S (x.keep b1)).trans ⟨wk.f, fun b u f e => wk.h b u (.inl f) e⟩) (wk.at o hA2 (b := { a2 with out := a2.out ++ [d] }) rfl (by show C (ds.drop (a2.out ++ [d]).length) k'; rw [eo]; exact hC))
  show SegG c U C (ds.length - a.out.length) k'.s cd (K .next) fs k'.s
  rw [q2, ← eo]
  exact z
end
end Mi

set_option Elab.async false
set_option linter.all false
set_option maxRecDepth 100000
set_option maxHeartbeats 1000000
/-! Mi: loops of a generator. -/
namespace Mi
open PySem PySem.Spec L2 PyProof.Rows Fz
section
variable {c : Cn} {U : GD} {C : List Mi.D → Wk → Prop} {ds : List Mi.D} {ip : List (Addr × Obj)} {Zg : List Nat} {Ax : List Addr} {a a1 : Sta} {k : Wk} {σ σ1 : L2.St} {w w1 : Wd} {s s1 : Shared} {g : G}
theorem gct_loop {cd cL : Code} {fs : List Frame} {gd : Bool → Bool} {kk : Result → Sem PySem.Fin} {l kp : List Value} {p : Pos} (h : GCt U cd fs gd) (hw : cL.weight = 0) (hu : cL.cUnits = 0) : GCt U cL (.ret kk none (gd false) l cd p kp :: fs) id where
  over := (GenW.over_loop hw hu).trans h.over
  split := by
    show (splitAtGen fs).map _ = none
    rw [h.split]; rfl
  guard := by
    show (gd false || fs.any Frame.guarded) = false
    rw [h.gd, h.guard]; rfl
  gd := rfl
/-- the pins of a loop's iterator, within -/
theorem At.pinned {fp : List Addr} (h : At c U C ds ip Zg Ax a k σ w s) (I : Inv (U.cx (cutS U.L k.s) (cutH U.L k.H)) ((yng U k ++ ip) ++ pinsAt fp s.heap) σ w.H s) (hf : ∀ b ∈ fp, U.L ≤ b ∧ ∀ q ∈ yng U k, q.1 ≠ b) : At c U C ds (ip ++ pinsAt fp s.heap) Zg Ax a k σ w s where
  g := ⟨by rw [← List.append_assoc]; exact I, h.g.ext, h.g.own, fun p m => by
    rcases List.mem_append.mp m with m | m
    · exact h.g.ips p m
    · obtain ⟨h1, _⟩ := of_pinsAt m
      exact ⟨(hf p.1 h1).1, .inr (hf p.1 h1).2⟩, h.g.hL, h.g.gen, h.g.zg, h.g.lt, List.mem_append_left _ h.g.self⟩
  S := h.S
  ax := h.ax
  c := h.c
theorem At.unpin {pl : List (Addr × Obj)} (hs : (U.ga, U.go) ∈ ip) (h : At c U C ds (ip ++ pl) Zg Ax a k σ w s) : At c U C ds ip Zg Ax a k σ w s where
  g := ⟨h.g.inv.pins_of fun p hp => h.g.inv.pin p (List.mem_append_right _ ((List.mem_append.mp hp).elim (fun m => List.mem_append_left _ m) fun m => List.mem_append_right _ (List.mem_append_left _ m))), h.g.ext, h.g.own, fun p m => h.g.ips p (List.mem_append_left _ m), h.g.hL, h.g.gen, h.g.zg, h.g.lt, hs⟩
  S := h.S
  ax := h.ax
  c := h.c
theorem At.pin (h : At c U C ds ip Zg Ax a k σ w s) {p : Addr × Obj} (m : p ∈ ip) : s.heap.get? p.1 = some p.2 ∧ w.H p.1 = none ∧ ∀ q ∈ yng U k, q.1 ≠ p.1 := by
  have z := h.g.inv.pin p (List.mem_append_right _ (List.mem_append_right _ m))
  refine ⟨z.1, z.2.1, fun q mq => ?_⟩
  rcases (h.g.ips p m).2 with y | y
  · intro e
    rw [← e] at y
    exact (mem_yng.mp mq).2.2.2.1 y
  · exact y q mq
theorem gs_for (o : GOk U) (hcK : U.K = c.K) {tg it : Expr} {t : Tg} {b : List Stmt} {src : CI} {cb : CB} {pr : Bool} {pos : Pos} (hpr : pr = true → pairTg t = true) (hs : ∀ x, foldedSetIterable it U.env x = pure x)
    (hi : ∀ s0 H0, PI (U.cx s0 H0) tg it (tI (c := c) (W := WF) (evI g src) pr)) (hg : ∀ s0 H0, PG (U.cx s0 H0) tg (gT c.K t)) (hb : GSs c U b (evB g cb)) : GS c U (.For tg it b [] pos) (evS g (.forS t src cb)) := by
  refine ⟨fun C cd fs K J gd lv ds ip Zg Ax a fl a' ff gc e ef hp k σ w s hA hK => ?_⟩
  unfold evS at e
  obtain ⟨xs, a1, e1, e2⟩ := okB e
  have eo : a1.out.length = a.out.length := by rw [(so_I g src).ok e1]
  rw [← eo]
  refine seg_For hs ?_
  rw [gc.over]
  have run := (hi (cutS U.L k.s) (cutH U.L k.H)).run (yng U k ++ ip) (hush s) σ w.H (fun J' H' => ∃ w2 Cond, w2.H = H' ∧ Ext w w2 ∧ SR c w2 a1.fr σ ∧ ItOk c J' xs pr Cond ∧ Cond w2) hA.g.inv.hush
    ⟨w, a, rfl, hA.S, (Go.ofPure e1).imp fun y b' wx x S' ⟨q1, q2⟩ => fun w1 w2 J' Cond x2 S2 K' cd' => ⟨w2, Cond, rfl, x2, by rw [← q2]; exact S2, by rw [← q1]; exact K', cd'⟩⟩
  have G0 : Hid s.gens (hush s).gens := hid0 trivial
  have z := hid_wp (B := fun v s1 => wpAny (model U.prog U.w) (U.A.deeper U.env) (pyIter v) (fun itv s2 => ∀ p, SegG c U C (ds.length - a1.out.length + 1) k.s (.forLoop tg itv b [] U.env) ((model U.prog U.w).den (.forLoop tg itv b [] U.env))
      (.ret (loopK K J gd lv U.env) none (gd false) (lv []) cd p [] :: fs) s2) (fun _ _ => False) s1) G0 run fun v s1 hd1 h1 => hid_wp hd1 h1 fun itv s2 hd2 pie p => ?_
  · rw [wh_hush] at z
    exact z
  obtain ⟨ita, fp, tn, J', H2, rfl, I2, T, st2, f2, w2, Cond, eH, x2, S2, K', cd'⟩ := pie
  subst eH
  have hA2 := hA.step hd2 I2 x2 S2 ((so_I g src).ok e1)
  -- the iterator's objects, once for all
  have stat : ∀ b ∈ fp, b ≠ U.L ∧ b ∉ frs U.outer ∧ U.L ≤ b ∧ ∀ p ∈ ip, p.1 ≠ b := fun b hb => by
    obtain ⟨_, q2, q3, q4, _, q6⟩ := f2 b hb
    refine ⟨q2, q3, ?_, fun p m => q6 p (List.mem_append_right _ (List.mem_append_right _ m))⟩
    rcases q4 with q4 | q4
    · cases q4
    · have q4 : (cutS U.L k.s).heap.objs.size ≤ b := q4
      rw [cutS_size (Nat.le_of_lt hA.g.lt)] at q4
      exact q4
  have fpok : ∀ {kk : Wk} {H : Hp}, U.L < kk.s.heap.objs.size → (∀ b ∈ fp, H b = none ∧ ∀ q ∈ yng U kk, q.1 ≠ b) → ∀ b ∈ fp, FpOk (U.cx (cutS U.L kk.s) (cutH U.L kk.H)) (yng U kk ++ ip) H b := fun {kk H} lt hf b hb => by
    obtain ⟨q1, q2, q3, q4⟩ := stat b hb
    refine ⟨(hf b hb).1, q1, q2, .inr ?_, fun x cc e => (o.nocell e).elim, fun p hp => ?_⟩
    · show (cutS U.L kk.s).heap.objs.size ≤ b
      rw [cutS_size (Nat.le_of_lt lt)]
      exact q3
    · have hp : p ∈ yng U kk ++ ip := hp
      rcases List.mem_append.mp hp with m | m
      · exact (hf b hb).2 p m
      · exact q4 p m
  have gcl := fun (kk : Result → Sem PySem.Fin) (l kp : List Value) (p : Pos) => gct_loop (cL := .forLoop tg (.ref ita) b [] U.env) (kk := kk) (l := l) (kp := kp) (p := p) gc rfl rfl
  have loop : ∀ (rest : List Mi.D) (i : Nat), rest = xs.drop i → i ≤ xs.length → ∀ (a1 : Sta) (k : Wk) (σ : L2.St) (w3 : Wd) (s : Shared), forL (fun d => do asgTg t d; evB g cb) rest a1 = .ok fl a' → At c U C ds ip Zg Ax a1 k σ w3 s → tn i s.heap → Cond w3 → FExt w w3 →
      (∀ b ∈ fp, w3.H b = none ∧ ∀ q ∈ yng U k, q.1 ≠ b) →
      SegG c U C (ds.length - a1.out.length + 1) k.s (.forLoop tg (.ref ita) b [] U.env) ((model U.prog U.w).den (.forLoop tg (.ref ita) b [] U.env)) (.ret (loopK K J gd lv U.env) none (gd false) (lv []) cd p [] :: fs) s := by
    intro rest
    induction rest with
    | nil =>
      intro i er il a1 k σ w3 s e2 hA st cnd fx hf
      have ei : i = xs.length := by
        have := congrArg List.length er
        rw [List.length_drop] at this
        have : xs.length - i = 0 := this.symm
        omega
      subst ei
      cases e2
      cases ef
      refine seg_forLoop ?_
      rw [(gcl _ _ _ _).over]
      have td := T.done (U.cx (cutS U.L k.s) (cutH U.L k.H)) rfl rfl rfl rfl xs.length (yng U k ++ ip) (hush s) σ w3.H (fun _ _ => False) hA.g.inv.hush (fpok hA.g.lt hf) st (K'.stop w3 cnd)
      refine keep_of (X := U.cx (cutS U.L k.s) (cutH U.L k.H)) td fun r s1 ⟨hr, I1⟩ hd => ?_
      subst hr
      intro c'
      have hA1 := hA.step (w1 := w3) hd I1 (Ext.refl w3) hA.S rfl
      exact seg_leaf (.ok .next) (hK k σ w3 _ fx hA1)
    | cons d rest ih =>
      intro i er il a1 k σ w3 s e2 hA st cnd fx hf
      have lt : i < xs.length := by
        have := congrArg List.length er
        rw [List.length_drop, List.length_cons] at this
        omega
      have er2 : d = xs[i] ∧ rest = xs.drop (i + 1) := by
        rw [List.drop_eq_getElem_cons lt] at er
        exact ⟨(List.cons.inj er).1, (List.cons.inj er).2⟩
      have e2 : ((asgTg t d >>= fun _ => evB g cb) >>= fun f => match f with
        | .nx => forL (fun d => do asgTg t d; evB g cb) rest
        | .cnt => forL (fun d => do asgTg t d; evB g cb) rest
        | .brk => pure .nx
        | .ret r => pure (.ret r)) a1 = .ok fl a' := e2
      obtain ⟨f1, ax, e3, e4⟩ := okB e2
      obtain ⟨_, a2, e5, e6⟩ := okB e3
      refine seg_forLoop ?_
      rw [(gcl _ _ _ _).over]
      have ti := T.item (U.cx (cutS U.L k.s) (cutH U.L k.H)) rfl rfl rfl rfl i (yng U k ++ ip) (hush s) σ w3.H (fun _ _ => False) hA.g.inv.hush (fpok hA.g.lt hf) st (K'.go w3 i cnd lt)
      refine keep_of (X := U.cx (cutS U.L k.s) (cutH U.L k.H)) ti fun r s1 ⟨u, hr, h1⟩ hd1 => ?_
      subst hr
      refine hid_wp hd1 h1 fun _ s2 hd2 ⟨x, H', I2, rv, hy, st2, n2⟩ => ?_
      have I2p : Inv (U.cx (cutS U.L k.s) (cutH U.L k.H)) ((yng U k ++ ip) ++ pinsAt fp s2.heap) σ H' s2 := I2.pinned (fpok hA.g.lt fun b hb => ⟨n2 b hb, (hf b hb).2⟩) (T.obj _ _ st2)
      have gg : GoS c WF PT_ (asgTg t d >>= fun _ => (pure () : M Unit)) w3 a1 fun _ b _ _ => b = a2 := (GoS.ofPure (show (asgTg t d >>= fun _ => (pure () : M Unit)) a1 = .ok () a2 by
        show M.bind (asgTg t d) (fun _ => (pure () : M Unit)) a1 = _
        unfold M.bind
        rw [e5]; rfl)).imp fun _ _ _ _ _ _ _ q => q.2
      have tgx : gT c.K t x σ H' fun σ' H'' => ∃ w', w'.H = H'' ∧ Ext w3 w' ∧ SR c w' a2.fr σ' := it_go K' hpr (Ext.refl w3) cnd hA.S (by rw [er2.1]; exact List.getElem?_eq_getElem lt) hy gg fun s' w' σ' y1 y2 S' _ G2 => by
        have q : s' = a2 := GoS.of_ok G2 (a := ()) (s1 := s') rfl y1 trivial S'
        exact ⟨w', rfl, y1, by rw [← q]; exact S'⟩
      have pg := (hg (cutS U.L k.s) (cutH U.L k.H)).run _ s2 σ H' x u _ I2p rv tgx
      refine hid_wp hd2 pg fun _ s3 hd3 ⟨σ3, H3, I3, w4, eH, x4, S4⟩ => ?_
      subst eH
      have keepP : ∀ b ∈ fp, ∀ ob, s2.heap.get? b = some ob → s3.heap.get? b = some ob ∧ w4.H b = none := fun b hb ob e =>
        let z := I3.pin (b, ob) (List.mem_append_right _ (List.mem_append_right _ (mem_pinsAt hb e)))
        ⟨z.1, z.2.1⟩
      have st3 : tn (i + 1) s3.heap := T.keep _ _ _ st2 fun b hb ob e => (keepP b hb ob e).1
      have hA3 := hA.step hd3 I3.unpinned x4 S4 (so_asgTg.ok e5)
      have epin : pinsAt fp s3.heap = pinsAt fp s2.heap := by
        have gen : ∀ l : List Addr, (∀ b ∈ l, b ∈ fp) → pinsAt l s3.heap = pinsAt l s2.heap := by
          intro l
          induction l with
          | nil => intro _; rfl
          | cons b l ih =>
            intro h
            obtain ⟨ob, e, _⟩ := T.obj _ _ st2 b (h b List.mem_cons_self)
            unfold pinsAt at ih ⊢
            rw [List.filterMap_cons, List.filterMap_cons, e, (keepP b (h b List.mem_cons_self) ob e).1, ih fun b m => h b (List.mem_cons_of_mem _ m)]
        exact gen fp fun _ m => m
      have hA4 : At c U C ds (ip ++ pinsAt fp (wh s.gens s3).heap) Zg Ax a2 k σ3 w4 (wh s.gens s3) := hA3.pinned (by
        show Inv _ ((yng U k ++ ip) ++ pinsAt fp s3.heap) _ _ _
        rw [epin]
        exact I3.wh hA.g.inv.bare) fun b hb => ⟨(stat b hb).2.2.1, (hf b hb).2⟩
      have eo2 : a2.out.length = a1.out.length := by rw [so_asgTg.ok e5]
      rw [← eo2]
      have next : ∀ {f : Flow}, flw f1 = some f → (turnK (.forLoop tg (.ref ita) b [] U.env) f = .pure (.again (.forLoop tg (.ref ita) b [] U.env))) → forL (fun d => do asgTg t d; evB g cb) rest ax = .ok fl a' →
          SegG c U C (ds.length - a2.out.length + 1) k.s (.forLoop tg (.ref ita) b [] U.env) ((execs b U.env).wrap (turnK (.forLoop tg (.ref ita) b [] U.env)) (turnJ U.env) id id) (.ret (loopK K J gd lv U.env) none (gd false) (lv []) cd p [] :: fs) (wh s.gens s3) := fun {f} q1 q2 q3 => by
        refine hb.run C _ _ _ _ id id ds _ Zg Ax a2 f1 ax f (gcl _ _ _ _) e6 q1 (((po_forL (fun d => PreO.bind so_asgTg.pre fun _ => po_B g cb)).ok q3).trans hp) k σ3 w4 _ hA4 fun k5 σ5 w5 s5 fx5 hA5 => ?_
        rw [q2]
        refine seg_again rfl (ih (i + 1) er2.2 lt ax k5 σ5 w5 s5 q3 (hA5.unpin hA.g.self) (T.keep _ _ _ st3 fun b hb ob e => (hA5.pin (List.mem_append_right _ (mem_pinsAt hb e))).1) (K'.perF w3 w5 cnd (fun a f => fx5.f a (x4.f a f)) fun a ob f e => fx5.h a ob (x4.f a f) (hA.S.fH x4 a ob f e)) ((fx.trans (FExt.of hA.S x4)).trans fx5) fun b hb => ?_)
        obtain ⟨ob, e, _⟩ := T.obj _ _ st3 b hb
        exact (hA5.pin (List.mem_append_right _ (mem_pinsAt hb e))).2
      cases f1 with
      | nx => exact next (f := .next) rfl rfl e4
      | cnt => exact next (f := .cont) rfl rfl e4
      | brk =>
        cases e4
        cases ef
        refine hb.run C _ _ _ _ id id ds _ Zg Ax a2 .brk a' .brk (gcl _ _ _ _) e6 rfl hp k σ3 w4 _ hA4 fun k5 σ5 w5 s5 fx5 hA5 => ?_
        exact seg_leaf (.ok .next) (hK k5 σ5 w5 s5 ((fx.trans (FExt.of hA.S x4)).trans fx5) (hA5.unpin hA.g.self))
      | ret r => cases e4; cases ef
  exact loop xs 0 rfl (Nat.zero_le _) a1 k σ w2 _ e2 hA2 st2 cd' (FExt.of hA.S x2) fun b hb => ⟨(f2 b hb).1, fun q m => (f2 b hb).2.2.2.2.2 q (List.mem_append_right _ (List.mem_append_left _ m))⟩
/-- while -/
theorem gs_while {test : Expr} {ct : CT} {b : List Stmt} {cb : CB} {pos : Pos} (ht : ∀ s0 H0, PT (U.cx s0 H0) test (tT c WF (evT g ct))) (hb : GSs c U b (evB g cb)) : GS c U (.While test b [] pos) (evS g (.whil ct cb)) := by
  refine ⟨fun C cd fs K J gd lv ds ip Zg Ax a fl a' ff gc e ef hp k σ w s hA hK => ?_⟩
  unfold evS at e
  refine seg_While fun p => ?_
  have gcl := fun (kk : Result → Sem PySem.Fin) (l kp : List Value) (p : Pos) => gct_loop (cL := .whileLoop test b [] U.env) (kk := kk) (l := l) (kp := kp) (p := p) gc rfl rfl
  have loop : ∀ (n : Nat) (a1 : Sta) (k : Wk) (σ : L2.St) (w3 : Wd) (s : Shared), whL (evT g ct) (evB g cb) n a1 = .ok fl a' → At c U C ds ip Zg Ax a1 k σ w3 s → FExt w w3 →
      SegG c U C (ds.length - a1.out.length + 1) k.s (.whileLoop test b [] U.env) ((model U.prog U.w).den (.whileLoop test b [] U.env)) (.ret (loopK K J gd lv U.env) none (gd false) (lv []) cd p [] :: fs) s := by
    intro n
    induction n with
    | zero => intro a1 k σ w3 s e; cases e
    | succ n ih =>
      intro a1 k σ w3 s e hA fx
      unfold whL at e
      obtain ⟨t, a2, e1, e2⟩ := okB e
      refine seg_whileLoop ?_
      rw [(gcl _ _ _ _).over]
      refine wpAny_mono (test_at ht e1 hA (B := fun t' s' => if t' = true then _ else _) fun w4 s4 x4 hA4 => ?_) (fun _ _ z => z) fun _ _ z => z.elim
      have eo : a2.out.length = a1.out.length := by rw [(so_T g ct).ok e1]
      rw [← eo]
      cases t with
      | false =>
        rw [if_neg Bool.false_ne_true]
        cases e2
        cases ef
        refine seg_execs_nil ?_
        exact seg_leaf (.ok .next) (hK k σ w4 s4 (fx.trans (FExt.of hA.S x4)) hA4)
      | true =>
        rw [if_pos rfl]
        have e2 : (evB g cb >>= fun f => match f with
          | .nx => whL (evT g ct) (evB g cb) n
          | .cnt => whL (evT g ct) (evB g cb) n
          | .brk => pure .nx
          | .ret r => pure (.ret r)) a2 = .ok fl a' := e2
        obtain ⟨f1, ax, e3, e4⟩ := okB e2
        have next : ∀ {f : Flow}, flw f1 = some f → (turnK (.whileLoop test b [] U.env) f = .pure (.again (.whileLoop test b [] U.env))) → whL (evT g ct) (evB g cb) n ax = .ok fl a' →
            SegG c U C (ds.length - a2.out.length + 1) k.s (.whileLoop test b [] U.env) ((execs b U.env).wrap (turnK (.whileLoop test b [] U.env)) (turnJ U.env) id id) (.ret (loopK K J gd lv U.env) none (gd false) (lv []) cd p [] :: fs) s4 := fun {f} q1 q2 q3 => by
          refine hb.run C _ _ _ _ id id ds _ Zg Ax a2 f1 ax f (gcl _ _ _ _) e3 q1 (((po_whL (so_T g ct) (po_B g cb)).ok q3).trans hp) k σ w4 _ hA4 fun k5 σ5 w5 s5 fx5 hA5 => ?_
          rw [q2]
          exact seg_again rfl (ih ax k5 σ5 w5 s5 q3 hA5 ((fx.trans (FExt.of hA.S x4)).trans fx5))
        cases f1 with
        | nx => exact next (f := .next) rfl rfl e4
        | cnt => exact next (f := .cont) rfl rfl e4
        | brk =>
          cases e4
          cases ef
          refine hb.run C _ _ _ _ id id ds _ Zg Ax a2 .brk a' .brk (gcl _ _ _ _) e3 rfl hp k σ w4 _ hA4 fun k5 σ5 w5 s5 fx5 hA5 => ?_
          exact seg_leaf (.ok .next) (hK k5 σ5 w5 s5 ((fx.trans (FExt.of hA.S x4)).trans fx5) hA5)
        | ret r => cases e4; cases ef
  exact loop g.wf a k σ w s e hA (FExt.refl w)
end
end Mi

set_option Elab.async false
set_option linter.all false
set_option maxRecDepth 100000
set_option maxHeartbeats 1000000
/-! Mi: a generator is made, and woken. -/
namespace Mi
open PySem PySem.Spec L2 PyProof.Rows Fz
theorem isgen_at {h h' : Heap} {a : Addr} {g : Nat} {o : Obj} (x : h.IsGen a g) (e : h.get? a = some o) (e' : h'.get? a = some o) : h'.IsGen a g := by
  obtain ⟨o1, nm, qn, ho, r⟩ := x
  rw [e] at ho
  cases ho
  exact ⟨_, nm, qn, e', r⟩
/-- what may follow a sleep -/
def Kap (M : Model) (A : Around) (R : GenEnd) (Y : Protocol) (gs : GenState) : Nat → Resume → Shared → Prop
  | 0 => fun _ _ => False
  | m + 1 => fun r s => gs.Goes M A R Y m r s
section
variable {M : Model} {A : Around} {R : GenEnd} {Y : Protocol} {n : Nat} {E : Value → Shared → Prop} {s : Shared} {g : Nat} {gs : GenState}
/-- a generator is woken; what sleeps afterwards is asleep -/
theorem resumeZ {α : Type} {r : Resume} {l : List Value} {k : GenResult → Sem α} {Q : α → Shared → Prop} (e : s.gens[g]? = some gs) (go : gs.Goes M A R Y n r (s.setGen g .running))
    (done : ∀ x s1, R n (s.setGen g .running) x s1 → wpAny M A (k (End.ret x).result) Q E (s1.setGen g .finished))
    (item : ∀ v s1 gs', asleep gs' = true → gs'.bare = true → Y (n - 1) (s.setGen g .running) v s1 (Kap M A R Y gs' n) → wpAny M A (k (.yielded v)) Q E (s1.setGen g gs')) :
    wpAny M A (.resume g r l k) Q E s := by
  intro Γ p hΓ
  rw [Sem.wp_resume]
  have key : ∀ {c : Code} {p' : Pos} {t : Sem PySem.Fin} {fs : List Frame}, Seg M A R Y n (s.setGen g .running) c t fs (s.setGen g .running) → ∃ e₁ s₁, Runs M (Γ.wake c p) p' t fs (s.setGen g .running) e₁ s₁ ∧ e₁.quiet = true ∧
      Sem.wp M Γ (k e₁.result) (fun a _ s' => Q a s') (fun e _ s' => E e s') p (s₁.setGen g e₁.genState) := by
    intro c p' t fs h
    obtain ⟨e₁, s₁, hr, he⟩ := seg_iff.mp h (Γ.wake c p) p' rfl (hΓ.wake c p)
    refine ⟨e₁, s₁, hr, ?_, ?_⟩
    · cases e₁ with
      | ret x => rfl
      | susp v g₀ l₀ k₀ c₀ p₀ fs₀ => exact he.1
    · cases e₁ with
      | ret x => exact done x s₁ he Γ p hΓ
      | susp v g₀ l₀ k₀ c₀ p₀ fs₀ =>
        refine item v s₁ _ rfl (End.bare_of_quiet he.1) ?_ Γ p hΓ
        cases n with
        | zero => exact he.2
        | succ m => exact he.2
  cases gs with
  | fresh c =>
    obtain ⟨rfl, hs⟩ := go
    obtain ⟨e₁, s₁, h1, h2, h3⟩ := key (p' := p) hs
    exact ⟨_, _, by unfold Wakes; rw [e]; exact ⟨e₁, s₁, h1, h2, rfl, rfl⟩, h3⟩
  | suspended k₀ l₀ c₀ p₀ fs₀ cl =>
    obtain ⟨e₁, s₁, h1, h2, h3⟩ := key (p' := p₀) go
    exact ⟨_, _, by unfold Wakes; rw [e]; exact ⟨e₁, s₁, h1, h2, rfl, rfl⟩, h3⟩
  | running => exact go.elim
  | finished => exact go.elim
end
section
variable {c : Cn} {U : GD} {C : List Mi.D → Wk → Prop} {P : Program} {w : World} {A : Around} {E : Value → Shared → Prop} {s : Shared} {n : Nat} {gs : GenState} {Q : Option Value → Shared → Prop}
theorem gen_next {a : Addr} {g : Nat} {R : GenEnd} {Y : Protocol} {Fp : Nat → Shared → Shared → Prop} (hR : ∀ n s₀ r s1, R n s₀ r s1 → (r = .ok (.ret .none) ∨ r = .ok .next) ∧ Fp n s₀ s1) (hh : A.handled = none) (hl : s.heap.NoLimit) (hroom : A.depth < recursionLimit) (hg : s.heap.IsGen a g) (e : s.gens[g]? = some gs)
    (go : gs.Goes (model P w) A.in1 R Y n (.send .none) (s.setGen g .running))
    (item : ∀ v s1 gs', asleep gs' = true → gs'.bare = true → Y (n - 1) (s.setGen g .running) v s1 (Kap (model P w) A.in1 R Y gs' n) → Q (some v) (s1.setGen g gs'))
    (done : ∀ s1, Fp n (s.setGen g .running) s1 → ∀ h', (∀ b o, s1.heap.get? b = some o → h'.get? b = some o) → Q none { s1.setGen g .finished with heap := h' }) : wpAny (model P w) A (pyNext (.ref a)) Q E s := by
  unfold pyNext
  refine wpAny_bind (wpAny_attempt (wpAny_callSpecial?_slot (name := Str.ofString "__next__") hg.typeIs slot_gen_next (wpAny_call_entry slot_gen_next hg.typeIs entry_gen_next ?_ (args_gen_next _))))
  show wpAny _ A.in1 (Builtin.Generator.genWake (.ref a) (.send .none)) _ _ s
  unfold Builtin.Generator.genWake
  refine wpAny_bind (wpAny_holding (wpAny_genNumber hg (wpAny_bind (wpAny_genState e ?_))))
  have main : ∀ {f : Unit → Sem PySem.Fin}, gs.status = .fresh ∨ gs.status = .suspended → True := fun _ => trivial
  cases gs with
  | running => exact go.elim
  | finished => exact go.elim
  | _ =>
    refine wpAny_bind (wpAny_roomToWake hl hroom ?_); show wpAny _ A.in1 (.resume g (.send .none) [] _) _ _ s
    refine resumeZ e go (fun x s1 hx => ?_) fun v s1 gs' ha hb hy => wpAny_pure ⟨v, rfl, wpAny_pure (item v s1 gs' ha hb hy)⟩
    obtain ⟨hr, hp⟩ := hR _ _ _ _ hx
    have hres : End.result (.ret x) = .returned .none := by rcases hr with rfl | rfl <;> rfl
    rw [hres]
    show wpAny _ A.in1 (newExc (.type "StopIteration") [] >>= _) _ _ _; refine wpAny_bind ?_
    simp only [newExc, newTuple]; refine wpAny_bind (wpAny_newObj_type ?_ (by size_fits))
    refine wpAny_bind (m := firstArgMember _ _) (wpAny_of_eq (a := Value.none) (by first | (simp only [firstArgMember]; rfl) | rfl) ?_)
    refine wpAny_newObj_type ?_ (by size_fits)
    simp only [raiseNew]; refine wpAny_bind (wpAny_bind (wpAny_handled ?_))
    rw [show A.in1.handled = none from hh]; refine wpAny_throw ?_
    refine wpAny_bind (wpAny_isInstance (T := "StopIteration") (b := true) ⟨_, Heap.get?_push_size _ rfl, rfl⟩ isSubtype_stop (wpAny_pure ?_))
    exact done s1 hp _ fun b o hb => Heap.get?_push_of_some _ (Heap.get?_push_of_some _ hb)
/-- the one who wakes it: what he finds -/
theorem gen_step {rem : List Mi.D} {ip : List (Addr × Obj)} {Zg : List Nat} {wd : Wd} {s0 : Shared} {k : Wk} (hUA : U.A = A.in1) (hP : U.prog = P) (hw : U.w = w) (hh : A.handled = none) (hl : s.heap.NoLimit) (hroom : A.depth < recursionLimit) (hg : s.heap.IsGen U.ga U.gn) (hself : s.heap.get? U.ga = some U.go) (e : s.gens[U.gn]? = some gs)
    (go : ∀ k, Wake U ip Zg wd s0 k → C rem k → gs.Goes (model U.prog U.w) U.A (RP U C) (YP U c C) (rem.length + 1) (.send .none) k.s) (ks : k.s = s.setGen U.gn .running) (wk : Wake U ip Zg wd s0 k) (hC : C rem k)
    (item : ∀ d rem' (k : Wk) (x : V) (v : Value) (w2 : Wd) (σ2 : L2.St) (ip2 : List (Addr × Obj)) (Zg2 : List Nat) (s1 : Shared) (gs' : GenState), rem'.length < rem.length → k.s = s.setGen U.gn .running → C (d :: rem') k → RelV x v → Rep c w2.F w2.H d x → (OwH w2 ∧ ∀ a ∈ w2.A, OwL (w2.H a)) → GSt U k ip2 Zg2 σ2 w2 s1 → s1.heap.IsGen U.ga U.gn → s1.heap.get? U.ga = some U.go →
      (s1.setGen U.gn gs').gens[U.gn]? = some gs' → asleep gs' = true → AllBare (s1.setGen U.gn gs').gens → (∀ k', Wake U ip2 Zg2 w2 s1 k' → C rem' k' → gs'.Goes (model U.prog U.w) U.A (RP U C) (YP U c C) (rem'.length + 1) (.send .none) k'.s) → Q (some v) (s1.setGen U.gn gs'))
    (done : ∀ (k : Wk) (w2 : Wd) (σ2 : L2.St) (ip2 : List (Addr × Obj)) (Zg2 : List Nat) (s1 : Shared) (h' : Heap), k.s = s.setGen U.gn .running → C [] k → OwH w2 → GSt U k ip2 Zg2 σ2 w2 s1 → (∀ b o, s1.heap.get? b = some o → h'.get? b = some o) → AllBare (s1.setGen U.gn .finished).gens → Q none { s1.setGen U.gn .finished with heap := h' }) :
    wpAny (model P w) A (pyNext (.ref U.ga)) Q E s := by
  subst hP hw
  have hgo := go k wk hC
  rw [ks, hUA] at hgo
  have lt : U.gn + 1 ≤ s.gens.size := (Array.getElem?_eq_some_iff.mp e).1
  refine GenW.wpAny_gsz lt (gen_next (Fp := fun n s₀ s1 => ∃ (k : Wk) (w : Wd) (σ : L2.St) (ip : List (Addr × Obj)) (Zg : List Nat), k.s = s₀ ∧ C [] k ∧ OwH w ∧ GSt U k ip Zg σ w s1) (fun _ _ _ _ h => h) hh hl hroom hg e hgo (fun v s1 gs' ha hb hy => ?_) fun s1 ⟨k', w', σ', ip', Zg', e1, e2, e3, e4⟩ h' hk => ?_)
  · intro sz
    obtain ⟨d, rem', k', x, w2, σ2, ip2, Zg2, e1, e2, e3, e4, e5, e6, e7, e8⟩ := hy
    have pin := (e7.inv.pin (U.ga, U.go) (List.mem_append_right _ (List.mem_append_right _ e7.self))).1
    have sz1 : U.gn < s1.gens.size := by
      have q : (s1.setGen U.gn gs').gens.size = s1.gens.size := GenW.setGen_size s1 U.gn gs'
      have sz : U.gn + 1 ≤ (s1.setGen U.gn gs').gens.size := sz
      omega
    have hlt : rem'.length < rem.length := by
      have e3 : rem'.length + 1 = rem.length + 1 - 1 := e3
      omega
    refine item d rem' k' x v w2 σ2 ip2 Zg2 s1 gs' hlt e1 e2 e4 e5 e6 e7 (isgen_at hg hself pin) pin (setGen_at sz1) ha (allBare_setGen e7.inv.bare hb) fun k'' wk'' hC'' => ?_
    have z := e8 k'' wk'' hC''
    have e3 : rem'.length + 1 = rem.length := e3
    rw [hUA, e3]
    exact z
  · intro _
    exact done k' w' σ' ip' Zg' s1 h' e1 e2 e3 e4 hk (allBare_setGen e4.inv.bare rfl)
end
end Mi

set_option Elab.async false
set_option linter.all false
set_option maxRecDepth 100000
set_option maxHeartbeats 1000000
/-! Mi: a generator def. -/
namespace Mi
open PySem PySem.Spec L2 PyProof.Rows Fz
/-- u is a new generator that will hand out ds -/
structure GenV (c : Cn) (P : Program) (w : World) (K : PySem.W.Frag) (mg : Str → Option Value) (base : Heap) (kk : Nat) (outer : List Env) (ds : List Mi.D) (sc : Shared) (wd : Wd) (u : Value) (s' : Shared) (U : Around → GD) (cd : Code) : Prop where
  u : ∀ A, u = .ref (U A).ga
  st : ∀ A A', (U A).prog = P ∧ (U A).w = w ∧ (U A).A = A ∧ (U A).outer = outer ∧ (U A).L = sc.heap.objs.size ∧ (U A).gn = (U A').gn ∧ (U A).ga = (U A').ga ∧ (U A).go = (U A').go ∧ (U A).Z0 = (U A').Z0 ∧ (U A).K = K ∧ (U A).mg = mg ∧ (U A).base = base
  at_ : ∀ A, s'.heap.get? (U A).ga = some (U A).go ∧ s'.heap.IsGen (U A).ga (U A).gn ∧ s'.gens[(U A).gn]? = some (.fresh cd) ∧ sc.gens.size ≤ (U A).gn ∧ sc.heap.objs.size ≤ (U A).ga
  nc : ∀ A v, (U A).go.data ≠ .cell v
  z0 : ∀ A b, b ∈ (U A).Z0 ↔ sc.heap.objs.size ≤ b ∧ b < s'.heap.objs.size
  old : ∀ (i : Nat) (x : GenState), sc.gens[i]? = some x → s'.gens[i]? = some x
  os : s'.os = sc.os
  bare : AllBare s'.gens
  lim : s'.heap.NoLimit
  keep : ∀ b o, sc.heap.get? b = some o → s'.heap.get? b = some o
  run : ∀ A, Room kk A → A.frames = some outer → GOk (U A) ∧ ∀ (C : List Mi.D → Wk → Prop) (k : Wk), Wake (U A) [((U A).ga, (U A).go)] [] wd s' k → C ds k → Seg (model P w) A (RP (U A) C) (YP (U A) c C) (ds.length + 1) k.s cd ((model P w).den cd) [] k.s
theorem start_rel {c : Cn} {F : Addr → Prop} {H : Hp} {N : List Str} {vs : List V} : ∀ {sl : List Slot} {σ : L2.St} {A : List Addr}, SRel c F H sl σ A → ∀ (n : Nat), SRel c F H (sl ++ List.replicate n .emp) (σ ++ List.replicate n none) A := by
  intro sl σ A r n
  induction r with
  | nil =>
    induction n with
    | zero => exact .nil
    | succ n ih => exact .emp ih
  | emp _ ih => exact .emp ih
  | fz h _ ih => exact .fz h ih
  | ow h _ ih => exact .ow h ih
/-- a generator def's promise -/
def GnR (c : Cn) (g : G) (j : Nat) (P : Program) (w : World) (K : PySem.W.Frag) (mg : Str → Option Value) (base : Heap) (kk : Nat) (f : Addr) : Prop :=
  ∀ (A : Around) (outer : List Env) (s : Shared) (wd : Wd) (us : List Value) (vs : List V) (sl : List Slot) (r : R) (outs : List Slot) (ds : List Mi.D), Room kk A → Env0 P w K mg base A outer s wd.H → Vals vs us → wd.A = [] → vs.length = (g.md j).length → SR c wd sl (vs.map some) → g.call j sl = .ok r outs ds →
    codeAny (model P w) A (.call (.ref f) ⟨us, []⟩) (fun r s' => match r with | .ok (.ret u) => ∃ U cd, GenV c P w K mg base kk outer ds s wd u s' U cd | _ => False) s
theorem GnR.mono {c : Cn} {g : G} {j : Nat} {P : Program} {w : World} {K : PySem.W.Frag} {mg : Str → Option Value} {base : Heap} {k k' : Nat} {f : Addr} (F : GnR c g j P w K mg base k f) (h : k ≤ k') : GnR c g j P w K mg base k' f := by
  intro A outer s wd us vs sl r outs ds hr e0 rv hA hl S hc
  refine codeAny_mono (F A outer s wd us vs sl r outs ds (hr.mono h) e0 rv hA hl S hc) fun r s' hq => ?_
  cases r with
  | error e => exact hq
  | ok fl =>
    cases fl with
    | ret u =>
      obtain ⟨U, cd, V⟩ := hq
      exact ⟨U, cd, V.u, V.st, V.at_, V.nc, V.z0, V.old, V.os, V.bare, V.lim, V.keep, fun A hr => V.run A (hr.mono h)⟩
    | next => exact hq
    | brk => exact hq
    | cont => exact hq
section
variable {c : Cn} {g g' : G} {j : Nat} {P : Program} {w : World} {K : PySem.W.Frag} {mg : Str → Option Value} {base : Heap} {kk : Nat} {f : Addr} {name qual : Str} {params : Arguments} {body : List Stmt} {scope : Scope} {dV kV doc pm cdv ct oc : Value} {an od : Option Addr} {osl : Array (Option Value)} {N ps : List Str} {cb : CB} {ns : Nat}
theorem gnr_of (lk : K.lookup f = some ⟨oc, od, .func (PySem.W.fnOf name qual params body scope dV kV doc pm an cdv ct), osl⟩) (hcd : PySem.W.codeIn K cdv qual = true) (S : GScope N ps scope) (hnc : ∀ y ∈ scope.names, y.2 ≠ .cell)
    (hb : Binds K (PySem.W.fnOf name qual params body scope dV kV doc pm an cdv ct) ps []) (hps : ps.length = (g.md j).length) (hns : ns = N.length) (hnr : nrB cb = true) (hcall : ∀ sl r outs ds, g.call j sl = .ok r outs ds → ∃ fl a', evB g' cb { fr := sl ++ List.replicate (ns - sl.length) .emp, out := [] } = .ok fl a' ∧ fl ≠ .brk ∧ fl ≠ .cnt ∧ a'.out = ds)
    (hbody : ∀ U : GD, U.prog = P → U.w = w → U.K = K → U.mg = mg → U.base = base → U.N = N → U.scope = scope → Room kk (U.A.deeper U.env) → GOk U → GSs c U body (evB g' cb)) : GnR c g j P w K mg base (kk + 1) f := by
  intro A outer s wd us vs sl r outs ds hr e0 rv hA hl S0 hc
  have hlp : vs.length = ps.length := hl.trans hps.symm
  have hlu : us.length = ps.length := by rw [← rv.length]; exact hlp
  have KX : K.In s.heap := e0.mod.kin.keeps fun b o e => (e0.bs b o e).1
  have lim : s.heap.NoLimit := e0.mod.nolimit.keeps fun b o e => (e0.bs b o e).1
  have hkind : ∀ y ∈ ps.zip us, scope.names.lookup y.1 = some .local ∨ (scope.names.lookup y.1 = some .cell ∧ ((cellsFrom (s.heap.objs.size + 1) scope.names []).lookup y.1).isSome = true) := fun y hy => (S.par y.1 (List.of_mem_zip hy).1).imp id fun q => ⟨q, PySem.W.cellsFrom_some _ _ _ (.inl q)⟩
  have hb' := hb s us KX (by rw [List.append_nil]; exact hlu)
  rw [List.append_nil] at hb'
  refine codeAny_call_generator hr.depth (KX _ _ lk) rfl S.co S.gen rfl (PySem.W.codeRec_of KX hcd) (hb' _ _ _ _ ?_)
  refine wpAny_newFunctionEnv_cells S.kind hkind fun env he s1 x => ?_
  subst he
  have lim1 : s1.heap.NoLimit := lim.keeps x.toInCall.keep
  refine ⟨lim1, ?_⟩
  obtain ⟨h1, tk, es1, hk1⟩ := x.done
  have kp1 : ∀ b o, s.heap.get? b = some o → s1.heap.get? b = some o := x.toInCall.keep
  have lt1 : s.heap.objs.size < s1.heap.objs.size := x.toInCall.ns.lt
  have I1 : Inv (gcxOf P w K mg base N qual scope f cdv A outer s wd.H (fun _ _ _ => False) []) [] (start N vs) wd.H s1 := inv_startG S hr.hd e0 hlp rv x
  have gen1 : s1.gens = s.gens := by rw [es1]
  have os1 : s1.os = s.os := by rw [es1]
  obtain ⟨fl, a', ev, nb, ncn, eout⟩ := hcall sl r outs ds hc
  have main : ∀ (go : Obj) (nm qn : Value) (tk2 : Nat), go.cls = .type "generator" → go.data = .fields #[.int s1.gens.size 0, nm, qn] → go.slots = #[] → (∀ h : Heap, (h.push go).get? h.objs.size = some go) →
      ∃ U cd, GenV c P w K mg base (kk + 1) outer ds s wd (.ref s1.heap.objs.size) { s1 with gens := s1.gens.push (.fresh (.func body (envOfC qual scope s.heap.objs.size f cdv))), toks := tk2, heap := s1.heap.push go } U cd := by
    intro go nm qn tk2 hgc hgd0 hgs hgp
    have kp2 : ∀ b o, s.heap.get? b = some o → (s1.heap.push go).get? b = some o := fun b o e => Heap.get?_push_of_some _ (kp1 b o e)
    have hgd : ∀ v, go.data ≠ .cell v := fun v q => by rw [hgd0] at q; cases q
    have hbare : AllBare (s1.gens.push (.fresh (.func body (envOfC qual scope s.heap.objs.size f cdv)))) := AllBare.push (by rw [gen1]; exact e0.bare) rfl
    have hsz : (s1.heap.push go).objs.size = s1.heap.objs.size + 1 := Heap.size_push _ _
    refine ⟨fun A' => { prog := P, w := w, K := K, mg := mg, base := base, N := N, qual := qual, scope := scope, f := f, cd := cdv, L := s.heap.objs.size, A := A', outer := outer, gn := s1.gens.size, Z0 := (List.range (s1.heap.push go).objs.size).filter fun b => decide (s.heap.objs.size ≤ b), ga := s1.heap.objs.size, go := go }, .func body (envOfC qual scope s.heap.objs.size f cdv),
      fun _ => rfl, fun _ _ => ⟨rfl, rfl, rfl, rfl, rfl, rfl, rfl, rfl, rfl, rfl, rfl, rfl⟩, fun _ => ⟨hgp _, ⟨go, nm, qn, hgp _, hgc, hgd0, hgs⟩, Array.getElem?_push_size .., by rw [gen1]; exact Nat.le_refl _, Nat.le_of_lt lt1⟩, fun _ => hgd, fun _ b => ?_, fun i y e => ?_, os1, hbare, lim1.keeps fun b o e => Heap.get?_push_of_some _ e, kp2, fun A' hr' hfr => ?_⟩
    · show b ∈ (List.range (s1.heap.push go).objs.size).filter _ ↔ _
      rw [List.mem_filter, List.mem_range]
      simp only [decide_eq_true_eq]
      exact ⟨fun h => ⟨h.2, h.1⟩, fun h => ⟨h.2, h.1⟩⟩
    · have lt := (Array.getElem?_eq_some_iff.mp e).1
      show (s1.gens.push _)[i]? = some y
      rw [Array.getElem?_push, gen1, if_neg (Nat.ne_of_lt lt)]
      exact e
    · have frl : ∀ b ∈ frs outer, b < s.heap.objs.size := fun b m => by
        obtain ⟨_, o, ho, _⟩ := e0.funs.mem m
        exact Heap.lt_size ho
      generalize hU : (⟨P, w, K, mg, base, N, qual, scope, f, cdv, s.heap.objs.size, A', outer, s1.gens.size, (List.range (s1.heap.push go).objs.size).filter fun b => decide (s.heap.objs.size ≤ b), s1.heap.objs.size, go⟩ : GD) = U
      have ok : GOk U := by
        subst hU
        refine ⟨S.kind, fun y m => ⟨hnc y m, S.nofree y m⟩, hr'.hd, hfr, frl, e0.bsz, ?_, fun b m => ?_⟩
        · show s.heap.objs.size ∈ (List.range (s1.heap.push go).objs.size).filter _
          rw [List.mem_filter, List.mem_range, hsz]
          exact ⟨Nat.lt_succ_of_lt lt1, by simp⟩
        · have m : b ∈ (List.range (s1.heap.push go).objs.size).filter _ := m
          rw [List.mem_filter] at m
          simpa using m.2
      refine ⟨ok, fun C k wk hC => ?_⟩
      -- the new generator's frame, as it stands
      have e0' : Env0 P w K mg base A' outer ({ s1 with gens := s1.gens.push (.fresh (.func body (envOfC qual scope s.heap.objs.size f cdv))), toks := tk2, heap := s1.heap.push go } : Shared) wd.H :=
        ⟨hfr, e0.mod, fun b o e => ⟨kp2 b o (e0.bs b o e).1, (e0.bs b o e).2⟩, Nat.le_trans e0.bsz (by show _ ≤ (s1.heap.push go).objs.size; rw [hsz]; exact Nat.le_succ_of_le (Nat.le_of_lt lt1)), Heap.FunFrames.of_keeps (fun b o e _ => ⟨o, kp2 b o e, rfl⟩) e0.funs, e0.frf, e0.hok.kept kp2, hbare⟩
      have nH : ∀ b, s.heap.objs.size ≤ b → wd.H b = none := fun b h => e0.hok.fresh h
      have g0 : GSt U ⟨({ s1 with gens := s1.gens.push (.fresh (.func body (envOfC qual scope s.heap.objs.size f cdv))), toks := tk2, heap := s1.heap.push go } : Shared), wd.H, wd.F, [], U.Z0 ++ [U.ga], []⟩ [(U.ga, U.go)] [] (start N vs) wd ({ s1 with gens := s1.gens.push (.fresh (.func body (envOfC qual scope s.heap.objs.size f cdv))), toks := tk2, heap := s1.heap.push go } : Shared) := by
        subst hU
        obtain ⟨m, hn, hlook⟩ := I1.loc
        have hn : s1.heap.Ns s.heap.objs.size m := hn
        have z := GSt.make (k := ⟨({ s1 with gens := s1.gens.push (.fresh (.func body (envOfC qual scope s.heap.objs.size f cdv))), toks := tk2, heap := s1.heap.push go } : Shared), wd.H, wd.F, [], _, []⟩) (ip := [(s1.heap.objs.size, go)]) (σ := start N vs) ok e0' ⟨m, hn.keeps fun b o e => Heap.get?_push_of_some _ e, fun i x v q1 q2 q3 => ?_⟩ I1.len (nH _ (Nat.le_refl _)) (fun p hp => ?_) rfl (fun i m => (by cases m)) ⟨fun a m => (by cases m), S0.fd⟩ List.mem_cons_self
        · have ew : (⟨wd.F, wd.H, []⟩ : Wd) = wd := by rw [← hA]
          have ew' : Wk.wd (⟨({ s1 with gens := s1.gens.push (.fresh (.func body (envOfC qual scope s.heap.objs.size f cdv))), toks := tk2, heap := s1.heap.push go } : Shared), wd.H, wd.F, [], (List.range (s1.heap.push go).objs.size).filter (fun b => decide (s.heap.objs.size ≤ b)) ++ [s1.heap.objs.size], []⟩ : Wk) = wd := ew
          have z' := z
          rw [← ew]
          exact z'
        · obtain ⟨u, ru, l⟩ := hlook i x v q1 q2 q3
          refine ⟨u, ru, ?_⟩
          rcases l with l | ⟨_, cc, e, _⟩
          · exact .inl l
          · exact (ok.nocell e).elim
        · rw [List.mem_singleton.mp hp]
          exact ⟨hgp _, nH _ (Nat.le_of_lt lt1), Nat.ne_of_gt lt1, fun z => Nat.lt_irrefl _ (Nat.lt_trans lt1 (frl _ z)), hgd, Nat.le_of_lt lt1⟩
      have wk : Wake U [(U.ga, U.go)] [] wd ({ s1 with gens := s1.gens.push (.fresh (.func body (envOfC qual scope s.heap.objs.size f cdv))), toks := tk2, heap := s1.heap.push go } : Shared) k := by
        subst hU
        exact wk
      have ow : OwH wd := ⟨fun a m => (by rw [hA] at m; cases m), S0.fd⟩
      have gk := g0.wake ok ow wk
      have eA : k.A = [] := by rw [wk.a, hA]
      have ekw : k.wd = wdx ⟨k.F, k.H, []⟩ [] := by
        show (⟨k.F, k.H, k.A⟩ : Wd) = _
        rw [eA]; rfl
      have hsl : sl.length = vs.length := by
        have := S0.rel.length
        rw [List.length_map] at this
        exact this
      have Sst : SR c ⟨k.F, k.H, []⟩ (sl ++ List.replicate (ns - sl.length) .emp) (start N vs) := by
        refine ⟨?_, List.nodup_nil, fun b m => (by cases m), wk.fd⟩
        have q := (S0.rel.mono wk.f (fun a o f e => wk.h a o (.inl f) e) fun a o m e => (by rw [hA] at m; cases m))
        rw [hA] at q
        have q2 := start_rel (N := N) (vs := vs) q (ns - sl.length)
        unfold L2.start
        rw [hns] at q2 ⊢
        rw [hsl] at q2 ⊢
        exact q2
      have hbd : GSs c U body (evB g' cb) := by
        refine hbody U ?_ ?_ ?_ ?_ ?_ ?_ ?_ ?_ ok <;> subst hU <;> first | rfl | exact hr'.deeper _
      have enx : fl = .nx := by
        have q := nr_B g' cb hnr _ _ _ ev
        cases fl with
        | nx => rfl
        | brk => exact (nb rfl).elim
        | cnt => exact (ncn rfl).elim
        | ret r => exact (q r rfl).elim
      subst enx
      have eP : U.prog = P ∧ U.w = w ∧ U.A = A' ∧ U.env = envOfC qual scope s.heap.objs.size f cdv := by subst hU; exact ⟨rfl, rfl, rfl, rfl⟩
      obtain ⟨eP, ew, eA', eE⟩ := eP
      rw [← eE, ← eP, ← ew, ← eA']
      refine seg_func ?_
      have z := hbd.run C (.func body U.env) [] (fun f => .pure (.done (.ret (match f with | .ret v => v | _ => .none)))) (fun e => (leaving U.env e).wrap (fun _ => .raise e) .raise id id) id id ds [(U.ga, U.go)] [] [] { fr := sl ++ List.replicate (ns - sl.length) .emp, out := [] } .nx a' .next
        ⟨GenW.over_func, rfl, rfl, rfl⟩ ev rfl (by rw [eout]; exact List.prefix_refl _) k (start N vs) ⟨k.F, k.H, []⟩ k.s ⟨by rw [← ekw]; exact gk, Sst, fun b m => (by cases m), hC⟩ fun k' σ' w' s' fx hA' => ?_
      · exact z
      · refine seg_end (.ok (.ret .none)) ⟨.inl rfl, k', wdx w' [], σ', _, _, rfl, ?_, owh_wdx hA'.S hA'.ax, hA'.g⟩
        have hc' := hA'.c
        rw [eout, List.drop_length] at hc'
        exact hc'
  exact main _ _ _ _ rfl rfl rfl fun h => Heap.get?_push_size _ rfl
end
end Mi

set_option Elab.async false
set_option linter.all false
set_option maxRecDepth 100000
set_option maxHeartbeats 1000000
/-! Mi: the one who wakes a generator. -/
namespace Mi
open PySem PySem.Spec L2 PyProof.Rows Fz
def hide (A : List Addr) (H : Hp) : Hp := fun a => if a ∈ A then none else H a
def merge (A : List Addr) (Hg Hc : Hp) : Hp := fun a => if a ∈ A then Hg a else Hc a
theorem hide_in {A : List Addr} {H : Hp} {a : Addr} (h : a ∈ A) : hide A H a = none := if_pos h
theorem hide_out {A : List Addr} {H : Hp} {a : Addr} (h : a ∉ A) : hide A H a = H a := if_neg h
theorem merge_in {A : List Addr} {Hg Hc : Hp} {a : Addr} (h : a ∈ A) : merge A Hg Hc a = Hg a := if_pos h
theorem merge_out {A : List Addr} {Hg Hc : Hp} {a : Addr} (h : a ∉ A) : merge A Hg Hc a = Hc a := if_neg h
theorem hide_some {A : List Addr} {H : Hp} {a : Addr} {o : HO} (h : hide A H a = some o) : a ∉ A ∧ H a = some o := by
  by_cases q : a ∈ A
  · rw [hide_in q] at h; cases h
  · rw [hide_out q] at h; exact ⟨q, h⟩
theorem hide_merge {A : List Addr} {Hg Hc : Hp} (h : ∀ a ∈ A, Hc a = none) : hide A (merge A Hg Hc) = Hc := by
  funext a
  by_cases q : a ∈ A
  · rw [hide_in q, h a q]
  · rw [hide_out q, merge_out q]
section
variable {P : Program} {w : World} {H Hg Hc : Hp} {h hg : Heap} {A : List Addr}
theorem hok_hide (hA : ∀ a ∈ A, Mut (H a)) (ok : HOk P w H h) : HOk P w (hide A H) h := fun a o e => by
  obtain ⟨_, e⟩ := hide_some e
  have keep : ∀ b u, H b = some u → ¬ Mut (some u) → hide A H b = some u := fun b u q n => by
    rw [hide_out fun m => n (by rw [← q]; exact hA b m)]; exact q
  exact (ok a o e).stay (fun _ _ _ z => z) (fun b q => keep b _ q fun z => z) fun b xs q => keep b _ q fun z => z
theorem hok_merge (okg : HOk P w Hg hg) (okc : HOk P w Hc h) (hA : ∀ a ∈ A, OwL (Hg a) ∧ (∀ o, hg.get? a = some o → h.get? a = some o) ∧ Hc a = none) : HOk P w (merge A Hg Hc) h := fun a o e => by
  by_cases q : a ∈ A
  · rw [merge_in q] at e
    obtain ⟨h1, h2, _⟩ := hA a q
    rw [e] at h1
    have ob := okg a o e
    cases o with
    | lst xs => obtain ⟨z, its, n, r, e⟩ := ob; exact ⟨z, its, n, r, h2 _ e⟩
    | dK kvs => obtain ⟨z, y, vs, r, ob, es, ep, e, cc⟩ := ob; exact ⟨z, y, vs, r, ob, es, ep, h2 _ e, cc⟩
    | _ => exact h1.elim
  · rw [merge_out q] at e
    have keep : ∀ b u, Hc b = some u → merge A Hg Hc b = some u := fun b u r => by
      rw [merge_out fun m => by rw [(hA b m).2.2] at r; cases r]; exact r
    exact (okc a o e).stay (fun _ _ _ z => z) (fun b r => keep b _ r) fun b xs r => keep b _ r
theorem owl_obj (ok : HOk P w H h) {a : Addr} (o : OwL (H a)) : ∃ ob, h.get? a = some ob ∧ isCell ob = false := by
  cases e : H a with
  | none => rw [e] at o; exact o.elim
  | some u =>
    rw [e] at o
    have ob := ok a u e
    cases u with
    | lst xs => obtain ⟨_, _, _, _, e⟩ := ob; exact ⟨_, e, rfl⟩
    | dK kvs => obtain ⟨_, _, _, _, o, _, _, e, _, hd, _⟩ := ob; exact ⟨_, e, by unfold isCell; rw [hd]⟩
    | _ => exact o.elim
end
section
variable {X : Cx} {pins : List (Addr × Obj)} {σ : L2.St} {H H' : Hp} {s s' : Shared} {ch : List Addr}
/-- behind what others have done: ch may have changed -/
theorem _root_.L2.Inv.call2 (I : Inv X pins σ H s) (ho : s'.os = s.os) (u : Un (frs X.stack) ch H H' s.heap s'.heap) (hok : HOk X.prog X.w H' s'.heap) (hg : AllBare s'.gens)
    (hch : ∀ b ∈ ch, (b ∈ X.ex ∨ X.s_0.heap.get? b = none) ∧ b ≠ X.env.locals ∧ (∀ x c, X.env.cells.lookup x = some c → c ≠ b) ∧ ∀ p ∈ X.pn ++ pins, p.1 ≠ b) : Inv X pins σ H' s' := by
  have neL : ∀ b o, X.s_0.heap.get? b = some o → b ≠ X.env.locals := fun b o e => Nat.ne_of_lt (Nat.lt_of_lt_of_le (Heap.lt_size e) I.ok.above)
  have neC : ∀ b o, X.s_0.heap.get? b = some o → b ∉ X.ex → b ∉ ch := fun b o e hx hb => (hch b hb).1.elim hx fun z => by rw [e] at z; cases z
  have nst : ∀ b, b ≠ X.env.locals → b ∉ X.fs → b ∉ frs X.stack := fun b h1 h2 m => (List.mem_cons.mp (I.stkSub b m)).elim h1 h2
  have lcs : X.env.locals ∉ ch := fun m => (hch _ m).2.1 rfl
  refine ⟨I.ok, ho.trans I.os, hg, ⟨fun b o e n hb hx => ?_, fun b o e n hb hx => ?_, fun b o e n hx => ?_, fun b o e hx => ?_, fun b xs e => u.tups b xs (I.base.tups b xs e), fun b o xs e => u.frzs b o xs (I.base.frzs b o xs e), fun b ps e => ?_⟩, ?_, fun x cc e => ?_, ?_, fun x cc e => ?_, fun p hp => ?_, hok, I.len⟩
  · exact u.keep b o (I.base.keep b o e n hb hx) (I.base.free b o e n hx) (nst b (neL b o e) hb) (neC b o e hx)
  · obtain ⟨sl, e1⟩ := I.base.slot b o e n hb hx
    obtain ⟨sl', e2⟩ := u.any e1 (I.base.free b o e n hx) (neC b o e hx)
    exact ⟨sl', e2⟩
  · obtain ⟨o', e1⟩ := I.base.there b o e hx
    exact u.free b o' e1 (I.base.free b o e n hx) (neC b o e hx)
  · obtain ⟨o', e1⟩ := I.base.there b o e hx
    exact u.there b o' e1 (neC b o e hx)
  · obtain ⟨m1, e1⟩ := I.base.tbls b ps e
    obtain ⟨m2, e2⟩ := u.tbls b _ e1
    exact ⟨m1 ++ m2, by rw [e2, Array.append_assoc]⟩
  · obtain ⟨m, ⟨o, es, ep, hoL, r⟩, hl⟩ := I.loc
    obtain ⟨sl, hL⟩ := u.any hoL I.free lcs
    refine ⟨m, ⟨_, es, ep, hL, r⟩, fun i x v e1 e2 e3 => ?_⟩
    obtain ⟨uu, ru, l⟩ := hl i x v e1 e2 e3
    refine ⟨uu, ru, ?_⟩
    rcases l with l | ⟨k, cc, e, ⟨oc, h1, h2⟩⟩
    · exact .inl l
    · obtain ⟨sl, q⟩ := u.any h1 (I.freeC x cc e) fun z => (hch cc z).2.2.1 x cc e rfl
      exact .inr ⟨k, cc, e, ⟨_, q, h2⟩⟩
  · obtain ⟨v, oc, h1, h2⟩ := I.cell x cc e
    obtain ⟨sl, q⟩ := u.any h1 (I.freeC x cc e) fun z => (hch cc z).2.2.1 x cc e rfl
    exact ⟨v, _, q, h2⟩
  · obtain ⟨m, ⟨o, _, _, hoL, _⟩, _⟩ := I.loc
    exact u.free _ o hoL I.free lcs
  · obtain ⟨v, oc, h1, h2⟩ := I.cell x cc e
    exact u.free cc oc h1 (I.freeC x cc e) fun z => (hch cc z).2.2.1 x cc e rfl
  · obtain ⟨e, n, ne, nf, d⟩ := I.pin p hp
    have nch : p.1 ∉ ch := fun z => (hch p.1 z).2.2.2 p hp rfl
    exact ⟨u.keep p.1 p.2 e n (nst p.1 ne nf) nch, u.free p.1 p.2 e n nch, ne, nf, d⟩
end
/-- what the waker's frame leans on -/
def Pr (X : Cx) (pins : List (Addr × Obj)) (b : Addr) : Prop := b = X.env.locals ∨ (∃ x, X.env.cells.lookup x = some b) ∨ ∃ p ∈ X.pn ++ pins, p.1 = b
structure CSt (X : Cx) (U : GD) (Dp : Option Addr) : Prop where
  prog : U.prog = X.prog
  w : U.w = X.w
  K : U.K = X.K
  mg : U.mg = X.mg
  base : U.base = X.base
  out : U.outer = X.stack
  A : U.A = X.A.in1
  root : ∀ b o, U.L ≤ b → X.s_0.heap.get? b = some o → b ∈ X.ex ∨ some b = Dp
  cells : ∀ x cc, X.env.cells.lookup x = some cc → cc < U.L
structure CD (X : Cx) (pins : List (Addr × Obj)) (U : GD) (Dp : Option Addr) (k : Wk) (Hc : Hp) : Prop where
  pr : ∀ b, Pr X pins b → b ∉ k.Z ∧ b ∉ k.A
  dp : ∀ D, Dp = some D → OwL (Hc D) ∧ D ∉ k.Z
  av : ∀ b ∈ k.A, X.s_0.heap.get? b = none ∨ b ∈ X.ex
  hc : Hc = hide k.A k.H
section
variable {X : Cx} {pins : List (Addr × Obj)} {σ σ2 : L2.St} {H Hc : Hp} {s s1 : Shared} {U : GD} {Dp : Option Addr} {k : Wk} {ip2 : List (Addr × Obj)} {Zg2 : List Nat} {w2 : Wd}
theorem pr_at (I : Inv X pins σ Hc s) (cs : CSt X U Dp) {b : Addr} (h : Pr X pins b) : ∃ o, s.heap.get? b = some o ∧ Hc b = none ∧ (isCell o = false ∨ b < U.L) := by
  rcases h with rfl | ⟨x, e⟩ | ⟨p, hp, rfl⟩
  · obtain ⟨m, ⟨o, es, ep, ho, hd, _⟩, _⟩ := I.loc
    exact ⟨o, ho, I.free, .inl (by unfold isCell; rw [hd])⟩
  · obtain ⟨v, o, ho, _⟩ := I.cell x b e
    exact ⟨o, ho, I.freeC x b e, .inr (cs.cells x b e)⟩
  · obtain ⟨e, n, _, _, d⟩ := I.pin p hp
    refine ⟨p.2, e, n, .inl ?_⟩
    cases q : p.2.data with
    | cell v => exact (d v q).elim
    | _ => unfold isCell; rw [q]
/-- the heap's part of what may have changed -/
def chs (U : GD) (k : Wk) : List Addr := (k.Z ++ ycl U k ++ k.A).filter fun b => (k.s.heap.get? b).isSome
theorem mem_chs {b : Addr} : b ∈ chs U k ↔ ((b ∈ k.Z ∨ b ∈ ycl U k) ∨ b ∈ k.A) ∧ ∃ o, k.s.heap.get? b = some o := by
  unfold chs
  rw [List.mem_filter, List.mem_append, List.mem_append, Option.isSome_iff_exists]
structure Back (X : Cx) (pins : List (Addr × Obj)) (σ : L2.St) (U : GD) (Dp : Option Addr) (ip2 : List (Addr × Obj)) (w2 : Wd) (s1 : Shared) (Hc : Hp) : Prop where
  I : Inv X pins σ (hide w2.A w2.H) s1
  pr : ∀ b, Pr X pins b → b ∉ U.Z0 ++ ip2.map (·.1) ∧ b ∉ w2.A
  dp : ∀ D, Dp = some D → hide w2.A w2.H D = Hc D ∧ D ∉ U.Z0 ++ ip2.map (·.1) ∧ D ∉ w2.A
  av : ∀ b ∈ w2.A, X.s_0.heap.get? b = none ∨ b ∈ X.ex
  gr : ∀ a o, Hc a = some o → hide w2.A w2.H a = some o
  gF : ∀ a, w2.F a → k.F a ∨ Hc a = none
theorem GSt.back (I : Inv X pins σ Hc k.s) (cs : CSt X U Dp) (cd : CD X pins U Dp k Hc) (hz0 : ∀ b ∈ U.Z0, b ∈ k.Z) (g : GSt U k ip2 Zg2 σ2 w2 s1) (ow : ∀ a ∈ w2.A, Mut (w2.H a)) : Back (k := k) X pins σ U Dp ip2 w2 s1 Hc := by
  have un := g.un
  have kA : ∀ a ∈ k.A, k.H a ≠ none := fun a m => mut_some (g.own.1 a m).2
  have eHc : ∀ a, a ∉ k.A → Hc a = k.H a := fun a n => by rw [cd.hc, hide_out n]
  have hcA : ∀ a ∈ k.A, Hc a = none := fun a m => by rw [cd.hc, hide_in m]
  -- what exists untracked and is no one's stays so
  have newA : ∀ b ∈ w2.A, b ∉ k.A → k.H b = none ∧ (k.s.heap.get? b = none ∨ b ∈ k.Z ∨ b ∈ ycl U k) := fun b m n => by
    have hn : k.H b = none := by
      rcases g.ext.a b m with z | z
      · exact (n z).elim
      · exact z
    refine ⟨hn, ?_⟩
    cases e : k.s.heap.get? b with
    | none => exact .inl rfl
    | some o =>
      right
      by_cases q : b ∈ k.Z ++ ycl U k
      · exact List.mem_append.mp q
      · exact (mut_some (ow b m) (un.free b o e hn q)).elim
  have prZ : ∀ b, Pr X pins b → b ∉ ycl U k := fun b h m => by
    obtain ⟨o, e, _, q⟩ := pr_at I cs h
    obtain ⟨l, o', e', ec⟩ := mem_ycl.mp m
    rw [e] at e'; cases e'
    rcases q with q | q
    · rw [ec] at q; cases q
    · exact absurd l (Nat.not_le.mpr q)
  have prA : ∀ b, Pr X pins b → b ∉ w2.A := fun b h m => by
    obtain ⟨o, e, _, _⟩ := pr_at I cs h
    rcases (newA b m (cd.pr b h).2).2 with z | z | z
    · rw [e] at z; cases z
    · exact (cd.pr b h).1 z
    · exact prZ b h z
  have ipn : ∀ p ∈ ip2, s1.heap.get? p.1 = some p.2 ∧ w2.H p.1 = none := fun p m =>
    let z := g.inv.pin p (List.mem_append_right _ (List.mem_append_right _ m))
    ⟨z.1, z.2.1⟩
  have prI : ∀ b, Pr X pins b → b ∉ ip2.map (·.1) := fun b h m => by
    obtain ⟨p, hp, rfl⟩ := List.mem_map.mp m
    obtain ⟨o, e, hn, q⟩ := pr_at I cs h
    obtain ⟨l, y⟩ := g.ips p hp
    rcases y with y | y
    · exact (cd.pr _ h).1 y
    · refine y (p.1, o) (mem_yng.mpr ⟨e, l, ?_, (cd.pr _ h).1, ?_⟩) rfl
      · rw [← eHc _ (cd.pr _ h).2]; exact hn
      · rcases q with q | q
        · exact q
        · exact absurd l (Nat.not_le.mpr q)
  have gr : ∀ a o, Hc a = some o → hide w2.A w2.H a = some o := fun a o e => by
    have na : a ∉ k.A := fun m => by rw [hcA a m] at e; cases e
    have ek : k.H a = some o := by rw [← eHc a na]; exact e
    have n2 : a ∉ w2.A := fun m => by
      rcases g.ext.a a m with z | z
      · exact na z
      · rw [show k.H a = none from z] at ek; cases ek
    rw [hide_out n2]
    exact g.ext.h a o ek na
  have dpn : ∀ D, Dp = some D → k.H D = Hc D ∧ Hc D ≠ none ∧ D ∉ k.A ∧ D ∉ w2.A := fun D e => by
    have o := (cd.dp D e).1
    have hn : Hc D ≠ none := mut_some o.mut
    have na : D ∉ k.A := fun m => hn (hcA D m)
    refine ⟨(eHc D na).symm, hn, na, fun m => ?_⟩
    rcases g.ext.a D m with z | z
    · exact na z
    · exact hn (by rw [eHc D na]; exact z)
  have avs : ∀ b, (b ∈ k.Z ∨ b ∈ ycl U k) → X.s_0.heap.get? b = none ∨ b ∈ X.ex := fun b m => by
    cases e : X.s_0.heap.get? b with
    | none => exact .inl rfl
    | some o =>
      right
      have l : U.L ≤ b := m.elim (fun m => g.hL.2 b m) fun m => (mem_ycl.mp m).1
      rcases cs.root b o l e with z | z
      · exact z
      · exfalso
        have z := z.symm
        rcases m with m | m
        · exact (cd.dp b z).2 m
        · obtain ⟨_, o', e', ec⟩ := mem_ycl.mp m
          obtain ⟨ob, e2, nc⟩ := owl_obj I.hok (cd.dp b z).1
          rw [e'] at e2; cases e2
          rw [ec] at nc; cases nc
  have noEx : ∀ b, k.s.heap.get? b = none → X.s_0.heap.get? b = none ∨ b ∈ X.ex := fun b e => by
    by_cases q : b ∈ X.ex
    · exact .inr q
    · cases e2 : X.s_0.heap.get? b with
      | none => exact .inl rfl
      | some o =>
        obtain ⟨o', e3⟩ := I.base.there b o e2 q
        rw [e] at e3; cases e3
  have av2 : ∀ b ∈ w2.A, X.s_0.heap.get? b = none ∨ b ∈ X.ex := fun b m => by
    by_cases q : b ∈ k.A
    · exact cd.av b q
    · rcases (newA b m q).2 with z | z
      · exact noEx b z
      · exact avs b z
  refine ⟨?_, fun b h => ⟨fun m => ?_, prA b h⟩, fun D e => ⟨?_, fun m => ?_, (dpn D e).2.2.2⟩, av2, gr, fun a f => ?_⟩
  · refine Inv.call2 (ch := chs U k) I g.inv.os ?_ ?_ g.inv.bare fun b m => ?_
    · rw [← cs.out]
      have out : ∀ b o, k.s.heap.get? b = some o → b ∉ chs U k → b ∉ k.Z ++ ycl U k ∧ b ∉ k.A := fun b o e n => ⟨fun m => n (mem_chs.mpr ⟨.inl (List.mem_append.mp m), o, e⟩), fun m => n (mem_chs.mpr ⟨.inr m, o, e⟩)⟩
      have nA : ∀ b u, k.H b = some u → ¬ Mut (some u) → w2.H b = some u → b ∉ w2.A := fun b u _ n e m => n (by rw [← e]; exact ow b m)
      have un0 : ∀ b, b ∉ k.A → Hc b = none → k.H b = none := fun b n e => by rw [← eHc b n]; exact e
      refine ⟨fun b o e n hb hx => ?_, fun b o e n hb hx => ?_, fun b o e n hx => ?_, fun b o e hx => un.there b o e (out b o e hx).1, fun b xs e => ?_, fun b o u e => ?_, fun b ps e => ?_⟩
      · exact un.keep b o e (un0 b (out b o e hx).2 n) hb (out b o e hx).1
      · exact un.slot b o e (un0 b (out b o e hx).2 n) hb (out b o e hx).1
      · have z := un.free b o e (un0 b (out b o e hx).2 n) (out b o e hx).1
        unfold hide
        split
        · rfl
        · exact z
      · exact gr b _ e
      · exact gr b _ e
      · exact ⟨#[], by rw [Array.append_empty]; exact gr b _ e⟩
    · have ok : HOk U.prog U.w w2.H s1.heap := g.inv.hok
      rw [cs.prog, cs.w] at ok
      exact hok_hide ow ok
    · obtain ⟨m, _⟩ := mem_chs.mp m
      have h1 : X.s_0.heap.get? b = none ∨ b ∈ X.ex := m.elim (fun m => avs b m) fun m => cd.av b m
      have h2 : ¬ Pr X pins b := fun z => m.elim (fun m => m.elim (cd.pr b z).1 (prZ b z)) (cd.pr b z).2
      exact ⟨h1.elim .inr .inl, fun e => h2 (.inl e), fun x cc e z => h2 (.inr (.inl ⟨x, by rw [← z]; exact e⟩)), fun p hp z => h2 (.inr (.inr ⟨p, hp, z⟩))⟩
  · rcases List.mem_append.mp m with m | m
    · exact (cd.pr b h).1 (hz0 b m)
    · exact prI b h m
  · cases q : Hc D with
    | none => exact ((dpn D e).2.1 q).elim
    | some o => exact gr D o q
  · rcases List.mem_append.mp m with m | m
    · exact (cd.dp D e).2 (hz0 D m)
    · obtain ⟨p, hp, rfl⟩ := List.mem_map.mp m
      have z := (ipn p hp).2
      have q := (dpn _ e).2.1
      cases q2 : Hc p.1 with
      | none => exact q q2
      | some o =>
        have := gr p.1 o q2
        rw [hide_out (dpn _ e).2.2.2, z] at this
        cases this
  · rcases g.ext.g a f with z | z | z
    · exact .inl z
    · right
      have z : k.H a = none := z
      rw [cd.hc]
      unfold hide
      split
      · rfl
      · exact z
    · exact .inr (hcA a z)
/-- what sleeps, pinned -/
def zad (U : GD) (ip2 : List (Addr × Obj)) (w2 : Wd) : List Addr := U.L :: (ip2.map (·.1) ++ w2.A)
theorem GSt.pinz (cs : CSt X U Dp) (o : GOk U) (g : GSt U k ip2 Zg2 σ2 w2 s1) (ow : ∀ a ∈ w2.A, OwL (w2.H a)) (b : Back (k := k) X pins σ U Dp ip2 w2 s1 Hc) (hz0 : U.L ∈ U.Z0) : Inv X (pins ++ pinsAt (zad U ip2 w2) s1.heap) σ (hide w2.A w2.H) s1 ∧ ∀ a ∈ zad U ip2 w2, ∃ ob, s1.heap.get? a = some ob := by
  have ip : ∀ p ∈ ip2, s1.heap.get? p.1 = some p.2 ∧ w2.H p.1 = none ∧ (∀ v, p.2.data ≠ .cell v) ∧ U.L ≤ p.1 := fun p m =>
    let z := g.inv.pin p (List.mem_append_right _ (List.mem_append_right _ m))
    ⟨z.1, z.2.1, z.2.2.2.2, (g.ips p m).1⟩
  obtain ⟨m, ⟨oL, es, ep, hoL, hd, rest⟩, _⟩ := id g.inv.loc
  have hoL : s1.heap.get? U.L = some oL := hoL
  have fs : ∀ a, a ∈ X.fs → a ∈ frs U.outer := fun a m => by
    rw [cs.out]
    rcases b.I.ok.stk with e | ⟨e, hf⟩
    · rw [e]; exact m
    · rw [e]
      unfold frs
      rw [List.filterMap_cons, hf]
      exact List.mem_cons_of_mem _ m
  have hide0 : ∀ a, w2.H a = none → hide w2.A w2.H a = none := fun a e => by
    unfold hide
    split
    · rfl
    · exact e
  have ex : ∀ a ∈ zad U ip2 w2, ∃ ob, s1.heap.get? a = some ob ∧ hide w2.A w2.H a = none ∧ a ≠ X.env.locals ∧ a ∉ X.fs ∧ ∀ v, ob.data ≠ .cell v := fun a m => by
    rcases List.mem_cons.mp m with e | m
    · subst e
      exact ⟨oL, hoL, hide0 _ g.inv.free, fun z => (b.pr _ (.inl z)).1 (List.mem_append_left _ hz0), fun z => Nat.lt_irrefl _ (o.old _ (fs _ z)), fun v z => by rw [hd] at z; cases z⟩
    · rcases List.mem_append.mp m with m | m
      · obtain ⟨p, hp, e⟩ := List.mem_map.mp m
        subst e
        obtain ⟨h1, h2, h3, h4⟩ := ip p hp
        exact ⟨p.2, h1, hide0 _ h2, fun z => (b.pr _ (.inl z)).1 (List.mem_append_right _ m), fun z => absurd (o.old _ (fs _ z)) (Nat.not_lt.mpr h4), h3⟩
      · obtain ⟨ob, e, nc⟩ := owl_obj g.inv.hok (ow a m)
        refine ⟨ob, e, hide_in m, fun z => (b.pr _ (.inl z)).2 m, fun z => ?_, isCell_no nc⟩
        have q : w2.H a = none := g.inv.stkFree a (by
          show a ∈ frs (U.env :: U.outer)
          unfold frs
          rw [List.filterMap_cons]
          exact List.mem_cons_of_mem _ (fs a z))
        exact mut_some (ow a m).mut q
  refine ⟨b.I.pins_of fun p hp => ?_, fun a m => ?_⟩
  · rcases List.mem_append.mp hp with hp | hp
    · exact b.I.pin p (List.mem_append_right _ hp)
    · obtain ⟨h1, h2⟩ := of_pinsAt hp
      obtain ⟨ob, e, q1, q2, q3, q4⟩ := ex p.1 h1
      rw [h2] at e; cases e
      exact ⟨h2, q1, q2, q3, q4⟩
  · obtain ⟨ob, e, _⟩ := ex a m
    exact ⟨ob, e⟩
/-- .. and woken again -/
theorem mkwake {I0 : List (Addr × Obj)} {σ' : L2.St} {Hc' : Hp} {s' : Shared} {w : Wd} {ip : List (Addr × Obj)} {Zg : List Nat} (cs : CSt X U Dp) (o : GOk U) (I : Inv X pins σ' Hc' s') (okg : HOk X.prog X.w w.H s.heap) (ow : OwH w ∧ ∀ a ∈ w.A, OwL (w.H a))
    (gb : ∀ b ob, X.base.get? b = some ob → w.H b = none) (gf : ∀ b ∈ frs X.stack, w.H b = none) (kz : ∀ b ∈ zad U ip w, (∀ ob, s.heap.get? b = some ob → s'.heap.get? b = some ob) ∧ Hc' b = none) (ipo : ∀ p ∈ ip, s.heap.get? p.1 = some p.2 ∧ w.H p.1 = none) (hL : w.H U.L = none)
    (pt : ∀ a ob, w.F a → w.H a = some ob → Hc' a = some ob) (hgen : ∀ (i : Nat) (y : GenState), s.gens[i]? = some y → asleep y = true → i ≠ U.gn → s'.gens[i]? = some y) :
    Wake U ip Zg w s ⟨s'.setGen U.gn .running, merge w.A w.H Hc', w.F, w.A, U.Z0 ++ ip.map (·.1), Zg⟩ := by
  have e0 := I.env0
  have zin : ∀ a ∈ w.A, a ∈ zad U ip w := fun a m => List.mem_cons_of_mem _ (List.mem_append_right _ m)
  have mg : ∀ b, w.H b = none → Hc' b = none → merge w.A w.H Hc' b = none := fun b h1 h2 => by
    unfold merge
    split
    · exact h1
    · exact h2
  refine ⟨⟨?_, ?_, ?_, ?_, ?_, ?_, ?_, ?_⟩, fun p hp => ?_, ⟨fun ob e => (kz U.L List.mem_cons_self).1 ob e, mg _ hL (kz U.L List.mem_cons_self).2⟩, fun a f => f, fun a ob h e => ?_, fun a m => (ow.1.1 a m).1, fun a f => ?_, rfl, rfl, rfl, fun i y e ya ne => ?_⟩
  · rw [cs.A, cs.out]; exact e0.frames
  · rw [cs.K, cs.mg, cs.base]; exact e0.mod
  · intro b ob e
    rw [cs.base] at e
    exact ⟨(e0.bs b ob e).1, mg b (gb b ob e) (e0.bs b ob e).2⟩
  · rw [cs.base]; exact e0.bsz
  · rw [cs.base, cs.out]; exact e0.funs
  · intro b m
    rw [cs.out] at m
    exact mg b (gf b m) (e0.frf b m)
  · rw [cs.prog, cs.w]
    exact hok_merge okg e0.hok fun a m => ⟨ow.2 a m, (kz a (zin a m)).1, (kz a (zin a m)).2⟩
  · exact allBare_setGen e0.bare rfl
  · have z := kz p.1 (List.mem_cons_of_mem _ (List.mem_append_left _ (List.mem_map.mpr ⟨p, hp, rfl⟩)))
    exact ⟨z.1 _ (ipo p hp).1, mg _ (ipo p hp).2 z.2⟩
  · show merge w.A w.H Hc' a = some ob
    by_cases q : a ∈ w.A
    · rw [merge_in q]; exact e
    · rw [merge_out q]
      exact pt a ob (h.elim id fun m => (q m).elim) e
  · show merge w.A w.H Hc' a ≠ none
    have hn := ow.1.2 a f
    cases e : w.H a with
    | none => exact (hn e).elim
    | some ob =>
      rw [merge_out fun m => (ow.1.1 a m).1 f, pt a ob f e]
      exact fun z => by cases z
  · show (s'.gens.setIfInBounds U.gn .running)[i]? = some y
    rw [Array.getElem?_setIfInBounds_ne (Ne.symm ne)]
    exact hgen i y e ya ne
end
end Mi

set_option Elab.async false
set_option linter.all false
set_option maxRecDepth 100000
set_option maxHeartbeats 1000000
/-! Mi: a generator's turn, seen by the one who wakes it. -/
namespace Mi
open PySem PySem.Spec L2 PyProof.Rows Fz
/-- what a generator's step does to what its waker tracks -/
structure YG (F : Addr → Prop) (H : Hp) (F' : Addr → Prop) (H' : Hp) : Prop where
  h : ∀ a o, H a = some o → H' a = some o
  f : ∀ a, F a → F' a
  g : ∀ a, F' a → F a ∨ H a = none
  d : ∀ a, F' a → H' a ≠ none
/-- a waker's word: by what is to come, what the generator leans on (and how it stood), the names, the heap -/
abbrev WG := List Mi.D → (Addr → Prop) → Hp → L2.St → Hp → Prop
def CW (X : Cx) (pins : List (Addr × Obj)) (U : GD) (Dp : Option Addr) (W : WG) (rem : List Mi.D) (k : Wk) : Prop := ∃ (Hc : Hp) (Hs : Hp) (σ : L2.St), W rem k.F Hs σ Hc ∧ Inv X pins σ Hc k.s ∧ CD X pins U Dp k Hc ∧ ∀ b ∈ U.Z0, b ∈ k.Z
/-- it sleeps (or has not begun) -/
structure TS (c : Cn) (X : Cx) (pins : List (Addr × Obj)) (U : GD) (Dp : Option Addr) (W : WG) (rem : List Mi.D) (F : Addr → Prop) (Hs : Hp) (s : Shared) (Hc : Hp) : Prop where
  ex : ∃ (gs : GenState) (ip : List (Addr × Obj)) (Zg : List Nat) (w : Wd) (s0 : Shared), s.gens[U.gn]? = some gs ∧ s.heap.IsGen U.ga U.gn ∧ s.heap.get? U.ga = some U.go ∧ F = w.F ∧ Hs = hide w.A w.H ∧ (OwH w ∧ ∀ a ∈ w.A, OwL (w.H a)) ∧ HOk X.prog X.w w.H s0.heap ∧
    (∀ b ob, X.base.get? b = some ob → w.H b = none) ∧ (∀ b ∈ frs X.stack, w.H b = none) ∧ (∀ b ∈ zad U ip w, (∀ ob, s0.heap.get? b = some ob → s.heap.get? b = some ob) ∧ Hc b = none) ∧ (∀ p ∈ ip, s0.heap.get? p.1 = some p.2 ∧ w.H p.1 = none) ∧ w.H U.L = none ∧
    (∀ (i : Nat) (y : GenState), s0.gens[i]? = some y → asleep y = true → i ≠ U.gn → s.gens[i]? = some y) ∧ (∀ b, Pr X pins b → b ∉ U.Z0 ++ ip.map (·.1) ∧ b ∉ w.A) ∧ (∀ D, Dp = some D → OwL (Hc D) ∧ D ∉ U.Z0 ++ ip.map (·.1)) ∧ (∀ b ∈ w.A, X.s_0.heap.get? b = none ∨ b ∈ X.ex) ∧
    ∀ k, Wake U ip Zg w s0 k → CW X pins U Dp W rem k → gs.Goes (model U.prog U.w) U.A (RP U (CW X pins U Dp W)) (YP U c (CW X pins U Dp W)) (rem.length + 1) (.send .none) k.s
section
variable {c : Cn} {X : Cx} {pins : List (Addr × Obj)} {σ : L2.St} {U : GD} {Dp : Option Addr} {W : WG} {rem : List Mi.D} {F : Addr → Prop} {Hs Hc : Hp} {s : Shared} {Q : Option Value → Shared → Prop} {E : Value → Shared → Prop}
theorem turn_go (cs : CSt X U Dp) (o : GOk U) (hh : X.A.handled = none) (hroom : X.A.depth < recursionLimit) (I : Inv X pins σ Hc s) (ts : TS c X pins U Dp W rem F Hs s Hc) (hW : W rem F Hs σ Hc) (pt : ∀ a ob, F a → Hs a = some ob → Hc a = some ob)
    (item : ∀ (d : Mi.D) (rem' : List Mi.D) (F1 : Addr → Prop) (Hs1 : Hp) (σ1 : L2.St) (H1 : Hp) (x : V) (v : Value) (F2 : Addr → Prop) (H2 : Hp) (s2 : Shared) (zp : List (Addr × Obj)), rem'.length < rem.length → W (d :: rem') F1 Hs1 σ1 H1 → YG F1 H1 F2 H2 → Rep c F2 H2 d x → RelV x v → Inv X (pins ++ zp) σ1 H2 s2 → s2.heap.IsGen U.ga U.gn →
      (∀ D, Dp = some D → H2 D = H1 D) → (∀ (σ3 : L2.St) (H3 : Hp) (s3 : Shared), Inv X (pins ++ zp) σ3 H3 s3 → KeptG s2.gens s3.gens → (∀ D, Dp = some D → OwL (H3 D)) → TS c X pins U Dp W rem' F2 H2 s3 H3) → Q (some v) s2)
    (done : ∀ (F1 : Addr → Prop) (Hs1 : Hp) (σ1 : L2.St) (H1 : Hp) (F2 : Addr → Prop) (H2 : Hp) (s2 : Shared), W [] F1 Hs1 σ1 H1 → YG F1 H1 F2 H2 → Inv X pins σ1 H2 s2 → (∀ D, Dp = some D → H2 D = H1 D) → Q none s2) :
    wpAny (model X.prog X.w) X.A (pyNext (.ref U.ga)) Q E s := by
  obtain ⟨gs, ip, Zg, w, s0, e1, e2, e3, eF, eHs, ow, okg, gb, gf, kz, ipo, hL, hgen, pr, dp, av, go⟩ := ts.ex
  subst eF eHs
  have hcA : ∀ a ∈ w.A, Hc a = none := fun a m => (kz a (List.mem_cons_of_mem _ (List.mem_append_right _ m))).2
  have wk := mkwake (I0 := []) (Zg := Zg) cs o I okg ow gb gf kz ipo hL (fun a ob f e => pt a ob f (by rw [hide_out fun m => (ow.1.1 a m).1 f]; exact e)) hgen
  generalize hk : (⟨s.setGen U.gn .running, merge w.A w.H Hc, w.F, w.A, U.Z0 ++ ip.map (·.1), Zg⟩ : Wk) = k at wk
  have hC : CW X pins U Dp W rem k := by
    subst hk
    refine ⟨Hc, _, σ, hW, I.genz (allBare_setGen I.bare rfl), ⟨fun b h => pr b h, fun D e => dp D e, av, (hide_merge hcA).symm⟩, fun b m => List.mem_append_left _ m⟩
  have ks : k.s = s.setGen U.gn .running := by rw [← hk]
  have yg : ∀ {k : Wk} {Hc1 : Hp} {ip2 : List (Addr × Obj)} {w2 : Wd} {s1 : Shared} {Zg2 : List Nat} {σ2 σ1 : L2.St}, GSt U k ip2 Zg2 σ2 w2 s1 → OwH w2 → Back (k := k) X pins σ1 U Dp ip2 w2 s1 Hc1 → YG k.F Hc1 w2.F (hide w2.A w2.H) := fun {k Hc1 ip2 w2 s1 Zg2 σ2 σ1} g ow2 b =>
    ⟨b.gr, g.ext.f, b.gF, fun a f => by rw [hide_out fun m => (ow2.1 a m).1 f]; exact ow2.2 a f⟩
  refine gen_step (C := CW X pins U Dp W) (rem := rem) (s0 := s0) (k := k) cs.A cs.prog cs.w hh I.nolimit hroom e2 e3 e1 go ks wk hC (fun d rem' k1 x v w2 σ2 ip2 Zg2 s1 gs' hlt e4 c1 rv rp ow2 g ig ga2 e5 ha hb hgo => ?_) fun k1 w2 σ2 ip2 Zg2 s1 h' e4 c1 ow2 g hk' hb => ?_
  · obtain ⟨Hc1, Hs1, σ1, w1, I1, cd1, z1⟩ := c1
    have b := GSt.back I1 cs cd1 z1 g fun a m => (ow2.2 a m).mut
    obtain ⟨Ip, exz⟩ := GSt.pinz cs o g ow2.2 b o.zL
    have hpinz : ∀ {σ3 : L2.St} {H3 : Hp} {s3 : Shared}, Inv X (pins ++ pinsAt (zad U ip2 w2) s1.heap) σ3 H3 s3 → ∀ a ∈ zad U ip2 w2, (∀ ob, s1.heap.get? a = some ob → s3.heap.get? a = some ob) ∧ H3 a = none := fun {σ3 H3 s3} I3 a m => by
      obtain ⟨ob, e⟩ := exz a m
      have z := I3.pin (a, ob) (List.mem_append_right _ (List.mem_append_right _ (mem_pinsAt m e)))
      exact ⟨fun ob' e' => by rw [e] at e'; cases e'; exact z.1, z.2.1⟩
    have hrep : Rep c w2.F (hide w2.A w2.H) d x := rp.mono (fun _ h => h) fun a ob f e => by rw [hide_out fun m => (ow2.1.1 a m).1 f]; exact e
    have ipo2 : ∀ p ∈ ip2, s1.heap.get? p.1 = some p.2 ∧ w2.H p.1 = none := fun p m =>
      let z := g.inv.pin p (List.mem_append_right _ (List.mem_append_right _ m))
      ⟨z.1, z.2.1⟩
    refine item d rem' k1.F Hs1 σ1 Hc1 x v w2.F (hide w2.A w2.H) (s1.setGen U.gn gs') (pinsAt (zad U ip2 w2) s1.heap) hlt w1 (yg g ow2.1 b) hrep rv (Ip.genz hb) ig (fun D e => (b.dp D e).1) fun σ3 H3 s3 I3 kg hd => ⟨gs', ip2, Zg2, w2, s1, kg U.gn gs' e5 ha, ?_, ?_, rfl, rfl, ow2, ?_, fun bb ob e => ?_, fun bb m => ?_, hpinz I3, ipo2, g.inv.free, fun i y e ya ne => ?_, b.pr, fun D e => ⟨hd D e, (b.dp D e).2.1⟩, b.av, hgo⟩
    · have gam : U.ga ∈ zad U ip2 w2 := List.mem_cons_of_mem _ (List.mem_append_left _ (List.mem_map.mpr ⟨_, g.self, rfl⟩))
      exact isgen_at ig ga2 ((hpinz I3 U.ga gam).1 _ ga2)
    · have gam : U.ga ∈ zad U ip2 w2 := List.mem_cons_of_mem _ (List.mem_append_left _ (List.mem_map.mpr ⟨_, g.self, rfl⟩))
      exact (hpinz I3 U.ga gam).1 _ ga2
    · have ok : HOk U.prog U.w w2.H s1.heap := g.inv.hok
      rw [cs.prog, cs.w] at ok
      exact ok
    · rw [← cs.base] at e
      exact (g.inv.bs bb ob e).2
    · rw [← cs.out] at m
      exact g.inv.stkFree bb (by
        show bb ∈ frs (U.env :: U.outer)
        unfold frs
        rw [List.filterMap_cons]
        exact List.mem_cons_of_mem _ m)
    · refine kg i y ?_ ya
      show (s1.gens.setIfInBounds U.gn gs')[i]? = some y
      rw [Array.getElem?_setIfInBounds_ne (Ne.symm ne)]
      exact e
  · obtain ⟨Hc1, Hs1, σ1, w1, I1, cd1, z1⟩ := c1
    have b := GSt.back I1 cs cd1 z1 g fun a m => (ow2.1 a m).2
    refine done k1.F Hs1 σ1 Hc1 w2.F (hide w2.A w2.H) _ w1 (yg g ow2 b) ?_ fun D e => (b.dp D e).1
    have q := Inv.kept (t' := s1.toks) b.I hk'
    exact q.genz hb
end
end Mi

set_option Elab.async false
set_option linter.all false
set_option maxRecDepth 100000
set_option maxHeartbeats 1000000
/-! Mi: comprehensions over a generator. -/
namespace Mi
open PySem PySem.Spec L2 PyProof.Rows Fz
abbrev TIG := L2.St → Hp → (List Mi.D → (Addr → Prop) → Hp → Prop) → Prop
/-- an expression that gives a new generator -/
structure PGn (X : Cx) (c : Cn) (kk : Nat) (e : Expr) (wi : TIG) : Prop where
  run : ∀ (pins : List (Addr × Obj)) (s : Shared) (σ : L2.St) (H : Hp) (Rr : List Mi.D → (Addr → Prop) → Hp → Prop), Inv X pins σ H s → wi σ H Rr →
    wpAny (model X.prog X.w) X.A (eval e X.env) (fun u s' => ∃ (sc : Shared) (ds : List Mi.D) (F : Addr → Prop) (H2 : Hp) (U : Around → GD) (cd : Code), Inv X pins σ H2 sc ∧ (∀ a, F a → H2 a ≠ none) ∧ Rr ds F H2 ∧ GenV c X.prog X.w X.K X.mg X.base kk X.stack ds sc ⟨F, H2, []⟩ u s' U cd) X.xe s
theorem hide_nil {H : Hp} : hide [] H = H := by
  funext a
  exact hide_out (by simp)
section
variable {c : Cn} {X Y : Cx} {pins : List (Addr × Obj)} {σ : L2.St} {Dp : Option Addr} {W : WG} {F : Addr → Prop} {H2 Hc : Hp} {s s' sc : Shared} {kk : Nat} {ds : List Mi.D} {u : Value} {UU : Around → GD} {cd : Code}
theorem first_ts (V : GenV c X.prog X.w X.K X.mg X.base kk X.stack ds sc ⟨F, H2, []⟩ u s' UU cd) (hr : Room kk X.A.in1) (I : Inv X pins σ H2 sc) (hF : ∀ a, F a → H2 a ≠ none) (eY : Y.prog = X.prog ∧ Y.w = X.w ∧ Y.base = X.base ∧ Y.stack = X.stack)
    (hs : ∀ b ob, s'.heap.get? b = some ob → s.heap.get? b = some ob) (hg : s.gens = s'.gens) (hL : Hc (UU X.A.in1).L = none) (hga : Hc (UU X.A.in1).ga = none)
    (pr : ∀ b, Pr Y [] b → b ∉ (UU X.A.in1).Z0 ++ [(UU X.A.in1).ga]) (dp : ∀ D, Dp = some D → OwL (Hc D) ∧ D ∉ (UU X.A.in1).Z0 ++ [(UU X.A.in1).ga]) : TS c Y [] (UU X.A.in1) Dp W ds F H2 s Hc := by
  obtain ⟨a1, a2, a3, a4, a5⟩ := V.at_ X.A.in1
  obtain ⟨s1, s2, s3, s4, s5, _⟩ := V.st X.A.in1 X.A.in1
  have nH : H2 (UU X.A.in1).L = none ∧ H2 (UU X.A.in1).ga = none := ⟨I.hok.fresh (by rw [s5]; exact Nat.le_refl _), I.hok.fresh a5⟩
  refine ⟨.fresh cd, [((UU X.A.in1).ga, (UU X.A.in1).go)], [], ⟨F, H2, []⟩, s', by rw [hg]; exact a3, a2.keeps hs, hs _ _ a1, rfl, hide_nil.symm, ⟨⟨fun a m => (by cases m), hF⟩, fun a m => (by cases m)⟩, ?_, fun b ob e => ?_, fun b m => ?_, fun b m => ?_, fun p m => ?_, nH.1, fun i y e _ _ => by rw [hg]; exact e, fun b h => ⟨pr b h, fun m => (by cases m)⟩, fun D e => dp D e, fun b m => (by cases m), fun k wk hC => ?_⟩
  · rw [eY.1, eY.2.1]
    exact I.hok.kept V.keep
  · rw [eY.2.2.1] at e
    exact (I.bs b ob e).2
  · rw [eY.2.2.2] at m
    exact I.stkFree b m
  · refine ⟨fun ob e => hs b ob e, ?_⟩
    have m : b ∈ (UU X.A.in1).L :: ([(UU X.A.in1).ga] ++ []) := m
    rcases List.mem_cons.mp m with e | m
    · rw [e]; exact hL
    · rw [List.append_nil, List.mem_singleton] at m
      rw [m]; exact hga
  · rw [List.mem_singleton.mp m]
    exact ⟨a1, nH.2⟩
  · refine ⟨rfl, ?_⟩
    have z := (V.run X.A.in1 hr I.ok.frames).2 _ k wk hC
    rw [s1, s2, s3]
    exact z
theorem first_ok (V : GenV c X.prog X.w X.K X.mg X.base kk X.stack ds sc ⟨F, H2, []⟩ u s' UU cd) (hr : Room kk X.A.in1) (I : Inv X pins σ H2 sc) : GOk (UU X.A.in1) := (V.run X.A.in1 hr I.ok.frames).1
end
section
variable {c : Cn} {X : Cx} {kk : Nat}
/-- {k: v for target in g(..)} -/
def tDcG (wi : TIG) (g : TG) (tk tv : TE) (vs : List Nat) : TE := fun σ H Q => wi σ H fun ds F H1 => ∀ D, H1 D = none → ∃ W : List Mi.D → (Addr → Prop) → Hp → Hp → Prop, W ds F H1 (upd H1 D (.dK [])) ∧ ∀ rem F Hs H, W rem F Hs H → (∀ a o, F a → Hs a = some o → H a = some o) ∧ (∃ kvs, H D = some (.dK kvs)) ∧ match rem with
  | [] => ∀ F' H', YG F H F' H' → Q (.ref D) H'
  | d :: rem' => ∀ x F' H', YG F H F' H' → Rep c F' H' d x → g x (L2.wipe σ vs) H' fun σ2 H2 => L2.wipe σ2 vs = L2.wipe σ vs ∧ tk σ2 H2 fun y H4 => tv σ2 H4 fun z H5 => ∃ kvs k, y = kV k ∧ H5 D = some (.dK kvs) ∧ kvs.length < sizeLine ∧ W rem' F' H' (upd H5 D (.dK (putK kvs k z)))
theorem go_gen {M : Model} {A : Around} {E : Value → Shared → Prop} {s : Shared} {tg : Expr} {a : Addr} {g : Nat} {u : Value} {Q : Unit → Shared → Prop} (h : s.heap.IsGen a g) (hQ : Q () s) : wpAny M A (letOwnedTupleGo tg (.ref a) u) Q E s := by
  obtain ⟨o, nm, qn, ho, hc, hd, _⟩ := h
  exact go_of ho hc hd (by decide) hQ
theorem pe_dcG {kx vx tg iter : Expr} {scope : Scope} {own : List (Str × Nat)} {pos : Pos} {wi : TIG} {g : TG} {tk tv : TE} (hc : X.calm = true) (hN : X.N.Nodup) (hr : Room (kk + 1) X.A) (hi : PGn X c kk iter wi) (ok : BlkOk X.N X.env.scope scope own) (hnc : ∀ y ∈ scope.names, y.2 ≠ .cell)
    (hg : ∀ (s : Shared) (H : Hp) (C : Addr) (cl : List (Str × Addr)) (fp : List Addr), PG (X.blk s H scope (compEnvC scope cl C X.env) fp) tg g)
    (hk : ∀ (s : Shared) (H : Hp) (C : Addr) (cl : List (Str × Addr)) (fp : List Addr), PE (X.blk s H scope (compEnvC scope cl C X.env) fp) kx tk)
    (he : ∀ (s : Shared) (H : Hp) (C : Addr) (cl : List (Str × Addr)) (fp : List Addr), PE (X.blk s H scope (compEnvC scope cl C X.env) fp) vx tv) (hs : ∀ x, foldedSetIterable iter X.env x = pure x) :
    PE X (.DictComp kx vx [⟨tg, iter, [], 0⟩] scope pos) (tDcG (c := c) wi g tk tv (own.map (·.2))) := by
  refine ⟨fun pins s σ H Q I h => ?_⟩
  rw [arm_eval_DictComp]
  have hfree : ∀ y ∈ scope.names, y.2 = .free → ∃ c, X.env.cells.lookup y.1 = some c := fun y hy e => (ok.free y hy e).elim (fun k => I.ok.has _ (.inl k)) fun k => I.ok.has _ (.inr k)
  refine wpAny_comprehension_free (use := none) rfl hs (closure_ok hfree) ok.kind (fun y hy e => by rw [ok.uniq y hy, e]) (thn (hi.run pins s σ H _ I h) fun u s1 ⟨sc, ds, F, H2, UU, cd, I1, hF, hR, V⟩ => ?_)
  have hr1 : Room kk X.A.in1 := Room.in1 hr
  have hu := V.u X.A.in1
  subst hu
  obtain ⟨va1, va2, va3, va4, va5⟩ := V.at_ X.A.in1
  obtain ⟨vs1, vs2, vs3, vs4, vs5, _, _, _, _, vs10, vs11, vs12⟩ := V.st X.A.in1 X.A.in1
  refine wpAny_pyIter_gen va2 ?_
  have I2 : Inv X pins σ H2 s1 := Inv.call2 (ch := []) I1 V.os (Un.kept V.keep) (I1.hok.kept V.keep) V.bare fun b m => (by cases m)
  refine wpAny_newObj_type (newEnv_comp ?_)
  generalize hD : s1.heap.objs.size = D
  have hDn : H2 D = none := I2.hok.fresh (Nat.le_of_eq hD)
  obtain ⟨W, w0, turn⟩ := hR D hDn
  generalize hs3 : ({ s1 with heap := s1.heap.push { cls := .type "dict", data := .dict #[] } } : Shared) = s3
  have I3 : Inv X pins σ (upd H2 D (.dK [])) s3 := by
    rw [← hs3]
    refine I2.laid (t' := s1.toks) (fun b o e => Heap.get?_push_of_some _ e) (Nat.le_of_eq hD) ?_
    rw [← hD]
    exact dk_empty s1.heap I2.big
  have h3 : s3.heap = s1.heap.push { cls := .type "dict", data := .dict #[] } := by rw [← hs3]
  have sz3 : s3.heap.objs.size = D + 1 := by rw [h3, Heap.size_push, hD]
  have z0 := V.z0 X.A.in1
  have f3 : ∀ b ∈ (UU X.A.in1).Z0, FpOk X pins (upd H2 D (.dK [])) b ∧ b < s3.heap.objs.size := fun b hb => by
    obtain ⟨h1, h2⟩ := (z0 b).mp hb
    have nb : b ≠ D := by rw [← hD]; exact Nat.ne_of_lt h2
    exact ⟨I1.fpOk h1 (by rw [upd_ne nb]; exact I1.hok.fresh h1), by rw [sz3, ← hD]; exact Nat.lt_succ_of_lt h2⟩
  have I4 := block_start I3 ok hN f3
  have pg := hg s3 (upd H2 D (.dK [])) s3.heap.objs.size (cellsFrom (s3.heap.objs.size + 1) scope.names (cloFrom X.env.cells scope.names [])) (UU X.A.in1).Z0
  have pk := hk s3 (upd H2 D (.dK [])) s3.heap.objs.size (cellsFrom (s3.heap.objs.size + 1) scope.names (cloFrom X.env.cells scope.names [])) (UU X.A.in1).Z0
  have pe := he s3 (upd H2 D (.dK [])) s3.heap.objs.size (cellsFrom (s3.heap.objs.size + 1) scope.names (cloFrom X.env.cells scope.names [])) (UU X.A.in1).Z0
  have ceC : ∀ x cc, (compEnvC scope (cellsFrom (s3.heap.objs.size + 1) scope.names (cloFrom X.env.cells scope.names [])) s3.heap.objs.size X.env).cells.lookup x = some cc → cc < sc.heap.objs.size := fun x cc e => by
    have e : (cellsFrom (s3.heap.objs.size + 1) scope.names (cloFrom X.env.cells scope.names [])).lookup x = some cc := e
    have q : ∀ {ns : List (Str × NameKind)} {n : Nat} {acc : List (Str × Addr)}, (∀ y ∈ ns, y.2 ≠ .cell) → cellsFrom n ns acc = acc := by
      intro ns
      induction ns with
      | nil => intro n acc _; rfl
      | cons y r ih =>
        intro n acc hh
        obtain ⟨nm, kd⟩ := y
        unfold cellsFrom
        have : (kd == NameKind.cell) = false := by
          have := hh (nm, kd) List.mem_cons_self
          cases kd <;> first | rfl | exact (this rfl).elim
        rw [if_neg (by rw [this]; exact Bool.false_ne_true)]
        exact ih fun y m => hh y (List.mem_cons_of_mem _ m)
    rw [q hnc] at e
    rcases cloFrom_mem (PySem.mem_of_lookup e) with z | ⟨h1, h2⟩
    · cases z
    · obtain ⟨c0, e0⟩ := hfree _ h1 rfl
      have e0 : X.env.cells.lookup x = some c0 := e0
      rw [e0] at h2
      have h2 : cc = c0 := h2
      subst h2
      obtain ⟨v, z⟩ := I1.cell x cc e0
      exact z.lt
  show codeAny _ _ (.compStart (.DictComp kx vx [⟨tg, iter, [], 0⟩] scope pos) 0 (.ref (UU X.A.in1).ga) (.ref D) (compEnvC scope (cellsFrom (s3.heap.objs.size + 1) scope.names (cloFrom X.env.cells scope.names [])) s3.heap.objs.size X.env)) (compPost (model X.prog X.w) X.A X.xe none _ (.ref D) s3.heap.objs.size) { s3 with heap := pushCells (s3.heap.push { cls := .type "dict", data := .dict #[] }) scope.names }
  generalize hce : compEnvC scope (cellsFrom (s3.heap.objs.size + 1) scope.names (cloFrom X.env.cells scope.names [])) s3.heap.objs.size X.env = ce at I4 pg pk pe ceC ⊢
  have cL : ce.locals = s3.heap.objs.size := by subst hce; rfl
  generalize hH3 : upd H2 D (.dK []) = H3 at I3 I4 pg pk pe w0 f3
  have k4 : ∀ b ob, s1.heap.get? b = some ob → (pushCells (s3.heap.push { cls := .type "dict", data := .dict #[] }) scope.names).get? b = some ob := fun b ob e => pushCells_keeps _ _ _ _ (Heap.get?_push_of_some _ (by rw [h3]; exact Heap.get?_push_of_some _ e))
  have eg3 : s3.gens = s1.gens := by rw [← hs3]
  have ga1 : (UU X.A.in1).ga < s1.heap.objs.size := Heap.lt_size va1
  have L1 : (UU X.A.in1).L < s1.heap.objs.size := ((z0 _).mp (first_ok V hr1 I1).zL).2
  generalize hs4 : ({ s3 with heap := pushCells (s3.heap.push { cls := .type "dict", data := .dict #[] }) scope.names } : Shared) = s4 at I4 ⊢
  generalize hU : UU X.A.in1 = U at *
  have HD3 : H3 D = some (.dK []) := by rw [← hH3, upd_same]
  have cs : CSt (X.blk s3 H3 scope ce U.Z0) U (some D) := by
    refine ⟨vs1, vs2, vs10, vs11, vs12, vs4, vs3, fun b ob l e => ?_, fun x cc e => ?_⟩
    · have lt : b < s3.heap.objs.size := Heap.lt_size e
      rw [sz3] at lt
      rw [vs5] at l
      by_cases q : b = D
      · exact .inr (by rw [q])
      · left
        show b ∈ U.Z0
        exact (z0 b).mpr ⟨l, by rw [hD]; exact Nat.lt_of_le_of_ne (Nat.le_of_lt_succ lt) q⟩
    · rw [vs5]
      exact ceC x cc e
  have prs : ∀ b, Pr (X.blk s3 H3 scope ce U.Z0) [] b → b ∉ U.Z0 ++ [U.ga] := fun b hb m => by
    have lb : sc.heap.objs.size ≤ b ∧ b < s1.heap.objs.size := by
      rcases List.mem_append.mp m with m | m
      · exact (z0 b).mp m
      · rw [List.mem_singleton.mp m]; exact ⟨va5, ga1⟩
    rcases hb with e | ⟨x, e⟩ | ⟨p, hp, e⟩
    · have e : b = ce.locals := e
      rw [cL, sz3] at e
      exact absurd lb.2 (by rw [hD, e]; exact Nat.not_lt.mpr (Nat.le_succ D))
    · exact absurd (ceC x b e) (Nat.not_lt.mpr lb.1)
    · cases hp
  have dps : ∀ D', some D = some D' → D' ∉ U.Z0 ++ [U.ga] := fun D' e m => by
    cases e
    rcases List.mem_append.mp m with m | m
    · exact absurd ((z0 D).mp m).2 (by rw [hD]; exact Nat.lt_irrefl D)
    · have e := List.mem_singleton.mp m
      exact absurd ga1 (by rw [← e, hD]; exact Nat.lt_irrefl D)
  have ts0 : TS c (X.blk s3 H3 scope ce U.Z0) [] U (some D) (fun rem F Hs σ' H => σ' = L2.wipe σ (own.map (·.2)) ∧ W rem F Hs H) ds F H2 s4 H3 := by
    subst hU
    refine first_ts V hr1 I1 hF ⟨rfl, rfl, rfl, rfl⟩ (fun b ob e => by rw [← hs4]; exact k4 b ob e) (by rw [← hs4]; exact eg3) ?_ ?_ prs fun D' e => ⟨?_, dps D' e⟩
    · rw [← hH3, upd_ne (by rw [← hD]; exact Nat.ne_of_lt L1)]
      exact I1.hok.fresh (by rw [vs5]; exact Nat.le_refl _)
    · rw [← hH3, upd_ne (by rw [← hD]; exact Nat.ne_of_lt ga1)]
      exact I1.hok.fresh va5
    · cases e
      rw [HD3]; trivial
  have gok : GOk U := by subst hU; exact first_ok V hr1 I1
  have loop : codeAny (model X.prog X.w) X.A (.compLoop (.DictComp kx vx [⟨tg, iter, [], 0⟩] scope pos) 0 (.ref U.ga) (.ref D) ce) (compPost (model X.prog X.w) X.A X.xe none (EP X pins σ Q) (.ref D) s3.heap.objs.size) s4 := by
    refine compLoop_anyD (fun n s' => ∃ rem F Hs Hc, n = rem.length ∧ W rem F Hs Hc ∧ Inv (X.blk s3 H3 scope ce U.Z0) [] (L2.wipe σ (own.map (·.2))) Hc s' ∧ TS c (X.blk s3 H3 scope ce U.Z0) [] U (some D) (fun rem F Hs σ' H => σ' = L2.wipe σ (own.map (·.2)) ∧ W rem F Hs H) rem F Hs s' Hc) ?_ ds.length ⟨ds, F, H2, H3, rfl, w0, I4, ts0⟩
    rintro n s5 ⟨rem, F5, Hs5, H5, rfl, w5, I5, ts5⟩
    have tn := turn rem F5 Hs5 H5 w5
    refine turn_go (X := (X.blk s3 H3 scope ce U.Z0)) cs gok hr.hd hr.depth I5 ts5 ⟨rfl, w5⟩ tn.1 (fun d rem' F1 Hs1 σ1 H1 x v F2 H2' s6 zp hlt hW yg rp rv I6 ig hD6 resume => ?_) fun F1 Hs1 σ1 H1 F2 H2' s6 hW yg I6 hD6 => ?_
    · obtain ⟨rfl, hW⟩ := hW
      have step := (turn _ F1 Hs1 H1 hW).2.2
      refine go_gen ig ?_
      have run := pg.run ([] ++ zp) (hush s6) (L2.wipe σ (own.map (·.2))) H2' x v _ I6.hush rv (step x F2 H2' yg rp)
      have fin : ∀ {σ8 : L2.St} {H' : Hp} {s' : Shared}, Hid s6.gens s'.gens → Inv (X.blk s3 H3 scope ce U.Z0) ([] ++ zp) σ8 H' s' → L2.wipe σ8 (own.map (·.2)) = L2.wipe σ (own.map (·.2)) → (∃ kvs, H' D = some (.dK kvs)) → W rem' F2 H2' H' → ∃ m, m < rem.length ∧ ∃ rem F Hs Hc, m = rem.length ∧ W rem F Hs Hc ∧ Inv (X.blk s3 H3 scope ce U.Z0) [] (L2.wipe σ (own.map (·.2))) Hc (wh s6.gens s') ∧
          TS c (X.blk s3 H3 scope ce U.Z0) [] U (some D) (fun rem F Hs σ' H => σ' = L2.wipe σ (own.map (·.2)) ∧ W rem F Hs H) rem F Hs (wh s6.gens s') Hc := fun {σ8 H' s'} hd I' hw hDk w' => by
        have hl : (L2.wipe σ (own.map (·.2))).length = σ8.length := by rw [← hw, wipe_length]
        have I7 := I'.wh (G0 := s6.gens) I6.bare
        refine ⟨rem'.length, hlt, rem', F2, H2', H', rfl, w', (I7.unpinned (pins := [])).weak hl (fun j v e => ?_), resume σ8 H' _ I7 (kept_heal hd) fun D' e => ?_⟩
        · rw [← hw] at e
          exact (wipe_some e).1
        · cases e
          obtain ⟨kvs, e⟩ := hDk
          rw [e]; trivial
      refine wpAny_mono (keep_of (X := (X.blk s3 H3 scope ce U.Z0)) (B := fun _ s₂ => wpAny (model X.prog X.w) X.A (forIn ([] : List Expr) true fun c r => if r = true then do let ok ← isTrue c ce (eval c ce); pure (ForInStep.yield ok) else pure (ForInStep.yield r)) _ _ s₂) run fun _ s7 ⟨σ7, H7, I7, hw7, q7⟩ hd7 => ?_) (fun _ _ z => z) fun _ _ z => z.elim
      refine wpAny_tests_nil ?_
      simp only [if_true]
      refine wpAny_mono (hid_wp hd7 (pk.run _ s7 σ7 H7 _ I7 q7) (B := fun kv s₄ => wpAny (model X.prog X.w) X.A (eval vx ce) _ _ s₄) fun kv s8 hd8 ⟨yk, H8, I8, r8, q8⟩ => ?_) (fun _ _ z => z) fun _ _ z => z.elim
      refine wpAny_mono (hid_wp hd8 (pe.run _ s8 σ7 H8 _ I8 q8) (B := fun vv s₅ => wpAny (model X.prog X.w) X.A (dictSet D kv vv) _ _ s₅) fun vv s9 hd9 ⟨yv, H9, I9, r9, kvs, kq, ek, hDk, hz, nx⟩ => ?_) (fun _ _ z => z) fun _ _ z => z.elim
      subst ek
      have ds := d_dictSet (E := fun _ _ => False) (X := (X.blk s3 H3 scope ce U.Z0)) (Q := fun _ s' => Inv (X.blk s3 H3 scope ce U.Z0) ([] ++ zp) σ7 (upd H9 D (.dK (putK kvs kq yv))) s') I9 hDk hz r8 r9 fun s' I' => I'
      exact wpAny_mono (hid_wp hd9 ds fun _ s10 hd10 I10 => fin hd10 I10 hw7 ⟨_, upd_same⟩ nx) (fun _ _ z => z) fun _ _ z => z.elim
    · obtain ⟨rfl, hW⟩ := hW
      have qq := (turn [] F1 Hs1 H1 hW).2.2 F2 H2' yg
      have I7 : Inv X pins σ H2' s6 := I3.call' (ch := U.Z0) I6.os I6.base I6.hok I6.bare fun b hb => ⟨(f3 b hb).1.2.2.2.1, (f3 b hb).1.2.1, (f3 b hb).1.2.2.2.2.1, (f3 b hb).1.2.2.2.2.2⟩
      have nC : H2' s3.heap.objs.size = none := by
        have z : H2' ce.locals = none := I6.free
        rw [cL] at z
        exact z
      obtain ⟨m, hn, _⟩ := I6.loc
      have hn : s6.heap.Ns ce.locals m := hn
      rw [cL] at hn
      refine ⟨m, hn, fun h'' sb => ?_⟩
      obtain ⟨f0, f1, f2, f3, f4, f5⟩ := I3.fpOk (Nat.le_refl _) nC
      exact ⟨.ref D, H2', I7.turned (t' := s6.toks) (fun b o hb e => (sb.2 b hb).trans e) f0 f1 f3 f4 f5, rfl, qq⟩
  exact codeAny_compStart_dict loop (wpAny_pyIter_gen (va2.keeps fun b ob e => by rw [← hs4]; exact k4 b ob e) loop)
end
end Mi

set_option Elab.async false
set_option linter.all false
set_option maxRecDepth 100000
set_option maxHeartbeats 2000000
/-! Mi: comprehensions over a generator, read. -/
namespace Mi
open PySem L2
section
variable {c : Cn} {P : L2.St → Prop} {g : G} {σ τ : L2.St} {H : Hp} {Q : VK} {α β : Type} {w w0 w1 : Wd} {s s1 : Sta} {own : List Nat}
/-- a generator as a source -/
def tIG (c : Cn) (m : M (List Mi.D)) : TIG := fun σ H R => ∃ w s, w.H = H ∧ SR c w s.fr σ ∧ Go c WF σ m w s fun ds s' _ => ∀ w2, Ext w w2 → SR c w2 s'.fr σ → R ds w2.F w2.H
theorem yg_grow {w' : Wd} {F F' : Addr → Prop} {H' : Hp} {fr : List Slot} (S : SR c w' fr σ) (hF : ∀ a, F a → w'.F a) (yg : YG F w'.H F' H') : Grow w' ⟨fun a => w'.F a ∨ F' a, H', w'.A⟩ where
  a := rfl
  f := fun a h => .inl h
  h := yg.h
  g := fun a z => z.elim .inl fun z => (yg.g a z).imp (hF a) id
  d := fun a z => z.elim (fun z => by
    have q := S.fd a z
    cases e : w'.H a with
    | none => exact (q e).elim
    | some o => show H' a ≠ none; rw [yg.h a o e]; exact fun z => by cases z) (yg.d a)
theorem t_dcG {j : Nat} {es : CA} {tg : Tg} {ka va : CE} (ht : ∀ i ∈ tgIx tg, i ∈ own) (h : tE c WF (evE g (.dc (.gen j es) tg ka va own)) σ H Q) :
    tDcG (c := c) (tIG c (evI g (.gen j es))) (gT c.K tg) (tE c WF (evE g ka)) (tE c WF (evE g va)) own σ H Q := by
  obtain ⟨w, s, rfl, S, h⟩ := h
  unfold evE at h
  refine ⟨w, s, rfl, S, h.bind.imp fun ds s1 wx x1 S1 G1 => fun w1 x S1 => ?_⟩
  intro D hD
  -- the block
  obtain ⟨A', S', x', G2⟩ := blk_go x S1 G1 (fun τ => L2.wipe τ own = L2.wipe σ own)
  let f : Mi.D → M (Key × Mi.D) := fun d => do
      asgTg tg d
      let kr ← evE g ka
      let vr ← evE g va
      let kd ← keepM kr
      let vd ← keepM vr
      let kk ← M.opt (keyOf kd)
      wipeM own
      pure (kk, vd)
  let Bf : List (Key × Mi.D) → Sta → Wd → St → Prop := fun a s' w' σ' => σ' = L2.wipe σ own → Ext w1 w' → ∃ s2 A2, SR c ⟨w'.F, w'.H, A2⟩ s2.fr σ ∧ Ext w ⟨w'.F, w'.H, A2⟩ ∧ Go c WF σ (pure (R.ow (.dic a) [])) w s2 (fun r s' w' => ∀ v, RR c w w' σ r v → Q v w'.H) ∧ ∀ b ∈ A2, b ∈ w'.A
  let Inv : List Mi.D → (Addr → Prop) → Hp → Hp → Prop := fun rem F Hs H' => ∃ (w' : Wd) (s' : Sta) (aD : List (Key × Mi.D)) (aV : List (Key × V)), w'.H = H' ∧ Ext w1 w' ∧ SR c w' s'.fr (L2.wipe σ own) ∧ H' D = some (.dK aV) ∧ RepK c w'.F w'.H aD aV ∧ ¬ w'.F D ∧ D ∉ w'.A ∧
    GoS c WF (fun τ => L2.wipe τ own = L2.wipe σ own) (dcL f rem aD) w s' Bf ∧ (∀ a, F a → w'.F a) ∧ ∀ a o, F a → Hs a = some o → H' a = some o
  refine ⟨Inv, ?_, ?_⟩
  · -- the new list
    have nF : ¬ w1.F D := fun z => S1.fd D z hD
    have nA : D ∉ w1.A := fun z => S1.rel.dom D z hD
    have gr : Grow (⟨w1.F, w1.H, A'⟩ : Wd) (Wd.new ⟨w1.F, w1.H, A'⟩ D (.dK [])) := Grow.new S' hD
    refine ⟨Wd.new ⟨w1.F, w1.H, A'⟩ D (.dK []), { s1 with fr := wipeS own s1.fr }, [], [], rfl, x'.trans gr.ext, gr.sr S', upd_same, .nil, nF, fun z => ?_, G2, fun a h => h, fun a o f e => by rw [upd_ne (ne_of_none e hD)]; exact e⟩
    rcases x'.a D z with q | q
    · exact nA q
    · exact S'.rel.dom D z q
  rintro rem F Hs H' ⟨w', s', aD, aV, rfl, y, Sw, eD, rA, nF, nA, G, fF, fH⟩
  refine ⟨fH, ⟨aV, eD⟩, ?_⟩
  cases rem with
  | cons d rem' =>
    intro v F' H' yg rp
    have gr := yg_grow Sw fF yg
    have G : GoS c WF _ ((asgTg tg d >>= fun _ => evE g ka >>= fun kr => evE g va >>= fun vr => keepM kr >>= fun kd => keepM vr >>= fun vd => M.opt (keyOf kd) >>= fun kk => wipeM own >>= fun _ => pure (kk, vd)) >>= fun q => match q with
      | (k, v) => if aD.length < LIM then dcL f rem' (dput aD k v) else M.bad) w s' Bf := G
    have G := G.assoc
    have rp2 : Rep c (⟨fun a => w'.F a ∨ F' a, H', w'.A⟩ : Wd).F (⟨fun a => w'.F a ∨ F' a, H', w'.A⟩ : Wd).H d v := rp.mono (fun a h => .inr h) fun a o _ e => e
    refine tg_go (w := ⟨fun a => w'.F a ∨ F' a, H', w'.A⟩) ((x.trans y).trans gr.ext) (gr.sr Sw) rp2 G fun s2 w2 σ2 _ y1 y2' S2 sm G2 => ?_
    have y2 : Ext w' w2 := gr.ext.trans y2'
    have ew : L2.wipe σ2 own = L2.wipe σ own := (wipe_same ht sm).trans wipe_wipe
    refine ⟨ew, ?_⟩
    have eD2 : w2.H D = some (.dK aV) := y2.h D _ eD nA
    have hb : w'.H D ≠ none := by rw [eD]; exact fun z => by cases z
    have nF2 : ¬ w2.F D := y2.notF hb nF nA
    have nA2 : D ∉ w2.A := y2.notA hb nA
    have G2 := G2.assoc
    refine tE.stm' (P := fun τ => L2.wipe τ own = L2.wipe σ own) ew y1 S2 G2 fun r s3 w3 u x3 S3 R3 G3 => ?_
    have eD3 : w3.H D = some (.dK aV) := x3.h D _ eD2 nA2
    have hb2 : w2.H D ≠ none := by rw [eD2]; exact fun z => by cases z
    have nF3 : ¬ w3.F D := x3.notF hb2 nF2 nA2
    have nA3 : D ∉ w3.A := x3.notA hb2 nA2
    have yy3 : Ext w1 w3 := (y.trans y2).trans x3
    have G3 := G3.assoc
    -- the value, told from the key's world
    refine ⟨w3, s3, rfl, S3, ((GoS.exp (σ := σ2) (P := fun τ => L2.wipe τ own = L2.wipe σ own) ew G3).up (y1.trans x3)).imp fun r2 s4 w4 x4 S4 G4 v2 R4 => ?_⟩
    have G4 : GoS c WF (fun τ => L2.wipe τ own = L2.wipe σ own) (keepM r >>= fun kd => keepM r2 >>= fun vd => (M.opt (keyOf kd) >>= fun kk => wipeM own >>= fun _ => pure (kk, vd)) >>= fun q => match q with
      | (k, v) => if aD.length < LIM then dcL f rem' (dput aD k v) else M.bad) w s4 Bf := G4.eqM (by
        show M.bind (M.bind (keepM r) _) _ s4 = M.bind _ _ s4
        unfold M.bind
        cases keepM r s4 with
        | bad => rfl
        | exc _ _ _ => rfl
        | ok d s5 =>
          show M.bind (M.bind (keepM r2) _) _ s5 = M.bind _ _ s5
          unfold M.bind
          cases keepM r2 s5 <;> rfl)
    have G4 : GoS c WF (fun τ => L2.wipe τ own = L2.wipe σ own) (M.opt (keepR r) >>= fun kd => M.opt (keepR r2) >>= fun vd => (M.opt (keyOf kd) >>= fun kk => wipeM own >>= fun _ => pure (kk, vd)) >>= fun q => match q with
      | (k, v) => if aD.length < LIM then dcL f rem' (dput aD k v) else M.bad) w s4 Bf := G4
    obtain ⟨kd, ek, G4⟩ := G4.optB
    obtain ⟨vd, ev, G4⟩ := G4.optB
    have G4 := G4.assoc
    obtain ⟨kk, ekk, G4⟩ := G4.optB
    have G5 : GoS c WF (fun τ => L2.wipe τ own = L2.wipe σ own) (if aD.length < LIM then dcL f rem' (dput aD kk vd) else M.bad) w { s4 with fr := wipeS own s4.fr } Bf := G4.eqM rfl
    by_cases hl : aD.length < LIM
    case neg => rw [if_neg hl] at G5; exact (G5.of_bad rfl).elim
    rw [if_pos hl] at G5
    have x24 := x3.trans x4
    obtain ⟨bs, b1, b2, b3⟩ := RRs.kept x24 S4 (.cons (R3.step S3 x4) (.cons (R4.weak x3) .nil)) (ds := [kd, vd]) (by simp [keepAll, ek, ev])
    have eD4 : w4.H D = some (.dK aV) := x4.h D _ eD3 nA3
    have hb3 : w3.H D ≠ none := by rw [eD3]; exact fun z => by cases z
    have nF4 : ¬ w4.F D := x4.notF hb3 nF3 nA3
    have nA4 : D ∉ w4.A := x4.notA hb3 nA3
    have nb : D ∉ bs := fun z => (b1 D z).elim nA2 hb2
    have S5 := S4.keep b2
    have rA4 : RepK c w4.F w4.H aD aV := ((rA.mono y2.f (Sw.fH y2)).mono x3.f (S2.fH x3)).mono x4.f (S3.fH x4)
    have rA5 : RepK c (w4.keep bs).F (w4.keep bs).H aD aV := rA4.mono (fun _ h => .inl h) fun a o _ e => e
    have nF5 : ¬ (w4.keep bs).F D := fun z => z.elim nF4 nb
    have up : ∀ a o, (w4.keep bs).F a → w4.H a = some o → (upd w4.H D (.dK (putK aV kk v2))) a = some o := fun a o f e => by
      rw [upd_ne (fun z => nF5 (by rw [← z]; exact f))]; exact e
    obtain ⟨A6, S6, m6⟩ := S5.wipe own
    rw [ew] at S6
    have hl' : aV.length < sizeLine := by rw [← lim_eq, ← rA.length]; exact hl
    have x15 : Ext w1 (w4.keep bs) := ((y.trans y2).trans x24).keep fun b m => (b1 b m).elim (fun z => (y.trans y2).a b z) fun n => .inr (Classical.byContradiction fun q => (y.trans y2).d b q n)
    cases b3 with
    | cons rk b3 =>
      cases b3 with
      | cons rv _ =>
        refine ⟨aV, kk, kV_rep rk ekk, eD4, hl', ⟨(w4.keep bs).F, upd w4.H D (.dK (putK aV kk v2)), A6⟩, { s4 with fr := wipeS own s4.fr }, dput aD kk vd, putK aV kk v2, rfl, ?_, ?_, upd_same, ?_, nF5, fun z => nA4 (m6 D z), G5, fun a f => .inl ((y2'.trans x24).f a (.inr f)), fun a o f e => ?_⟩
        · refine ⟨x15.f, fun a o e n => ?_, x15.g, fun b m => x15.a b (m6 b m), fun a z => ?_⟩
          · show upd w4.H D _ a = _
            rw [upd_ne (ne_of_none e hD)]
            exact x15.h a o e n
          · show upd w4.H D _ a ≠ none
            by_cases q : a = D
            · rw [q, upd_same]; exact fun z => by cases z
            · rw [upd_ne q]; exact x15.d a z
        · refine ⟨S6.rel.mono (fun _ h => h) up fun a o m e => ?_, S6.nd, S6.nf, fun a f => ?_⟩
          · show upd w4.H D _ a = _
            rw [upd_ne (fun z => nA4 (m6 D (by rw [← z]; exact m)))]; exact e
          · show upd w4.H D _ a ≠ none
            rw [upd_ne (fun z => nF5 (by rw [← z]; exact f))]; exact S5.fd a f
        · exact (rA5.put rv).mono (fun _ h => h) up
        · have z : w4.H a = some o := (y2'.trans x24).h a o e fun m => (gr.sr Sw).nf a m (.inr f)
          show upd w4.H D _ a = some o
          rw [upd_ne (fun q => nF5 (by rw [← q]; exact .inl ((y2'.trans x24).f a (.inr f))))]
          exact z
  | nil =>
    intro F' H' yg
    have gr := yg_grow Sw fF yg
    have Sg := gr.sr Sw
    have eDg : H' D = some (.dK aV) := yg.h D _ eD
    have rAg : RepK c (⟨fun a => w'.F a ∨ F' a, H', w'.A⟩ : Wd).F H' aD aV := gr.repK rA
    have nFg : ¬ (w'.F D ∨ F' D) := fun z => z.elim nF fun z => (yg.g D z).elim (fun z => nF (fF D z)) fun z => by rw [eD] at z; cases z
    obtain ⟨s2, A2, S5, x5, G5, m5⟩ := GoS.of_ok (W := WF) G (a := aD) rfl ((x.trans y).trans gr.ext) wipe_wipe Sg rfl (y.trans gr.ext)
    have q := Go.of_ok G5 (a := R.ow (.dic aD) []) rfl x5 S5 (.ref D) ⟨D, [], rfl, .dic eDg rAg, by simp, fun b m => ?_⟩
    · exact q
    · rw [List.mem_singleton.mp m]
      refine ⟨nFg, fun z => nA (m5 D z), .inr (Classical.byContradiction fun q => x.d D q hD)⟩
end
end Mi

set_option Elab.async false
set_option linter.all false
set_option maxRecDepth 100000
set_option maxHeartbeats 2000000
/-! Mi: a generator def called. -/
namespace Mi
open PySem PySem.Spec L2 PyProof.Rows Fz
theorem ar_none {c : Cn} {F : Addr → Prop} {H : Hp} {fr : List Slot} {σ : L2.St} : ∀ {ms : List Bool} {rs : List R} {vs : List V} {sl : List Slot}, AR c F H fr σ ms rs vs sl → boAll rs = [] → SRel c F H sl (vs.map some) [] := by
  intro ms rs vs sl h
  induction h with
  | nil => intro _; exact .nil
  | @fz ms r rs v vs d sl nb h t ih =>
    intro n
    refine .fz h (ih ?_)
    cases r with
    | bo i => exact absurd rfl (nb i)
    | fz _ => exact n
    | ow _ _ => exact n
  | bo _ _ _ _ => intro n; cases n
section
variable {c : Cn} {X : Cx} {g : G} {kk : Nat} {f : Addr} {x : Str} {j : Nat} {es : List Expr} {ca : CA} {p pos : Pos}
theorem run_gen {pins : List (Addr × Obj)} {σ : L2.St} {w : Wd} {s1 : Shared} {us : List Value} {vs : List V} {rs : List R} {a1 : Sta} {w1 : Wd} {A : List Mi.D → Sta → Wd → Prop} {E : Value → Shared → Prop} (F : GnR c g j X.prog X.w X.K X.mg X.base kk f) (hr : Room kk X.A) (hva : g.va j = false) (I1 : Inv X pins σ w1.H s1) (rv : Vals vs us) (x : Ext w w1) (S1 : SR c w1 a1.fr σ) (R1 : RRs c w w1 σ rs vs) (G : Go c WF σ (doGen g j rs) w a1 A) :
    wpAny (model X.prog X.w) X.A (call (.ref f) us) (fun u s' => ∃ (sc : Shared) (ds : List Mi.D) (F : Addr → Prop) (H2 : Hp) (U : Around → GD) (cd : Code) (w2 : Wd), Inv X pins σ H2 sc ∧ (∀ a, F a → H2 a ≠ none) ∧ (w2.F = F ∧ w2.H = H2 ∧ A ds a1 w2 ∧ Ext w w2 ∧ SR c w2 a1.fr σ) ∧ GenV c X.prog X.w X.K X.mg X.base kk X.stack ds sc ⟨F, H2, []⟩ u s' U cd) E s1 := by
  have e0 : doGen g j rs a1 = (match (if boAll rs = [] then toSlots a1 (g.md j) (g.va j) rs else none) with
    | none => .bad
    | some sl => match g.call j sl with
      | .ok _ _ tr => .ok tr a1
      | .exc c vs _ [] => .exc c vs a1
      | _ => .bad) := rfl
  by_cases nb : boAll rs = []
  case neg => rw [if_neg nb] at e0; exact (G.of_bad e0).elim
  rw [if_pos nb] at e0
  cases et : toSlots a1 (g.md j) (g.va j) rs with
  | none => rw [et] at e0; exact (G.of_bad e0).elim
  | some sl0 =>
    rw [et] at e0
    dsimp only at e0
    obtain ⟨rs1, rs2, vs1, vs2, sl1, dd, bs, q1, q2, q3, q4, qz, q5, q6, q7, q8, q9, q10⟩ := toSlots_AR x S1 et R1
    have z2 := q6 hva
    subst z2
    rw [List.append_nil] at q2
    subst q2
    rw [hva] at q5
    have q5 : sl0 = sl1 := by rw [q5]; exact List.append_nil _
    subst q5
    have nb1 : boAll rs1 = [] := by
      rw [q1, boAll_app] at nb
      exact (List.append_eq_nil_iff.mp nb).1
    have Sk := S1.keep q8
    have SC : SR c ⟨(w1.keep bs).F, w1.H, []⟩ sl0 (vs.map some) := ⟨ar_none q9 nb1, List.nodup_nil, fun b m => (by cases m), Sk.fd⟩
    cases ec : g.call j sl0 with
    | bad => rw [ec] at e0; exact (G.of_bad e0).elim
    | exc k us' outs tr =>
      rw [ec] at e0
      cases tr with
      | cons _ _ => exact (G.of_bad e0).elim
      | nil =>
        unfold Go at G
        rw [e0] at G
        exact (G w1 x S1).elim
    | ok r outs tr =>
      rw [ec] at e0
      refine wpAny_call (codeAny_mono (F X.A X.stack s1 ⟨(w1.keep bs).F, w1.H, []⟩ us vs sl0 r outs tr hr I1.env0 rv rfl q4 SC ec) fun r s' hq => ?_)
      cases r with
      | error e => exact hq.elim
      | ok fl =>
        cases fl with
        | ret u =>
          obtain ⟨U, cd, V⟩ := hq
          exact ⟨s1, tr, _, _, U, cd, w1.keep bs, I1, Sk.fd, ⟨rfl, rfl, Go.of_ok G e0 (x.keep q7) Sk, x.keep q7, Sk⟩, V⟩
        | next => exact hq.elim
        | brk => exact hq.elim
        | cont => exact hq.elim
theorem pgn_call (F : GnR c g j X.prog X.w X.K X.mg X.base kk f) (hr : Room kk X.A) (hva : g.va j = false) (hg : Gl X x) (hm : X.mg x = some (.ref f)) (hk : PySem.W.keepIn X.K (.ref f) = true) (ha : PArg X es (tA c WF (evA g ca))) (hdb : (x == ("__debug__" : Str)) = false) :
    PGn X c kk (.Call (.Name x p) es [] pos) (tIG c (evI g (.gen j ca))) := by
  refine ⟨fun pins s σ H Rr I h => ?_⟩
  obtain ⟨w, a, rfl, S, G⟩ := h
  unfold evI at G
  refine wpAny_Call_Name_kw (ld_glob I hg hm ?_ hdb)
  refine ha.run pos _ [] pins s σ w.H (fun vs H1 => ∃ rs a1 w1, w1.H = H1 ∧ Ext w w1 ∧ SR c w1 a1.fr σ ∧ RRs c w w1 σ rs vs ∧ Go c WF σ (doGen g j rs) w a1 fun ds s' _ => ∀ w2, Ext w w2 → SR c w2 s'.fr σ → Rr ds w2.F w2.H) _ hk I ⟨w, a, rfl, S, G.bind.imp fun rs a1 w1 x S1 q vs R1 => ⟨rs, a1, w1, rfl, x, S1, R1, q⟩⟩ fun us s1 vs H1 I1 rv hR => ?_
  obtain ⟨rs, a1, w1, rfl, x, S1, R1, G1⟩ := hR
  refine wpAny_mono (run_gen F hr hva I1 rv x S1 R1 G1) (fun u s' h => ?_) fun _ _ z => z
  obtain ⟨sc, ds, F, H2, U, cd, w2, h1, h2, ⟨e1, e2, h3, h4, h5⟩, h6⟩ := h
  subst e1 e2
  exact ⟨sc, ds, _, _, U, cd, h1, h2, h3 w2 h4 h5, h6⟩
end
end Mi

set_option Elab.async false
set_option linter.all false
set_option maxRecDepth 100000
set_option maxHeartbeats 400000
/-! Mi: what is known of a def's (or a block's) surroundings. -/
namespace Mi
open PySem L2 PyProof.Rows
/-- the surroundings, as data -/
structure Fs where
  N : List Str
  sc : Scope
  fnOf : List (Str × Nat)
  clOf : List (Str × Nat)
  ctOf : List (Str × D)
  meths : List ((Nat × Str) × Nat)
  props : List ((Nat × Str) × Nat)
  cmeths : List ((Nat × Str) × Nat)
  inits : List (Nat × Nat)
  flds : List (List Str)
  gnOf : List (Str × Nat)
  cells : Bool := true
/-- a constant's value -/
def cstV : D → Option V
  | .non => some .non
  | .bl b => some (.bl b)
  | .int i => some (.int i)
  | .str x => some (.str x)
  | _ => none
theorem cstV_rep {c : Cn} {d : D} {v : V} (h : cstV d = some v) : ∀ F H, Rep c F H d v := by
  intro F H
  cases d <;> cases h
  · exact .non
  · exact .bl _
  · exact .int _
  · exact .str _
/-- the surroundings are so -/
structure Ok (S : Fs) (c : Cn) (g : G) (CX : CXT) (lv : Nat) (X : Cx) : Prop where
  k : X.K = c.K
  n : X.N = S.N
  nd : X.N.Nodup
  sc : X.env.scope = S.sc
  calm : X.calm = true
  room : Room (lv + 1) X.A
  units : X.A.units + 100 < cLine
  no : ∀ l H s E e s', ¬ CX l H s E e s'
  own : PassesOwn (model X.prog X.w) X.A X.env X.xe
  fn : ∀ x j, S.fnOf.lookup x = some j → ∃ f, X.mg x = some (.ref f) ∧ PySem.W.keepIn X.K (.ref f) = true ∧ FnR X.prog X.w X.K X.mg X.base CX lv f (spOf c g j)
  fnT : S.cells = true → ∀ x, X.fn x = true
  gn : ∀ x j, S.gnOf.lookup x = some j → ∃ f, X.mg x = some (.ref f) ∧ PySem.W.keepIn X.K (.ref f) = true ∧ GnR c g j X.prog X.w X.K X.mg X.base lv f ∧ g.va j = false
  cl : ∀ x i, S.clOf.lookup x = some i → X.mg x = some (.ref (c.C i))
  ct : ∀ x d, S.ctOf.lookup x = some d → ∃ u v, X.mg x = some u ∧ RelV v u ∧ ∀ F H, Rep c F H d v
  bl : ∀ x, x ∈ ["len", "all", "int", "tuple", "list", "dict", "isinstance", "enumerate", "zip", "range", "bool", "str"] → X.mg x = none
  fl : ∀ i fs, S.flds[i]? = some fs → c.fl i = fs ∧ fs.Nodup ∧ Cls X.K (c.C i) ∧ ∀ f ∈ fs, NoAttr X.K (c.C i) f
  init : ∀ i j, S.inits.lookup i = some j → ∃ f, Mk X.K (c.C i) f ∧ FnR X.prog X.w X.K X.mg X.base CX lv f (spOf c g j)
  meth : ∀ i m j, S.meths.lookup (i, m) = some j → ∃ f, Meth X.K (c.C i) m f ∧ FnR X.prog X.w X.K X.mg X.base CX lv f (spOf c g j)
  prop : ∀ i m j, S.props.lookup (i, m) = some j → ∃ p f, PropOf X.K (c.C i) m p f ∧ FnR X.prog X.w X.K X.mg X.base CX lv f (spOf c g j)
  cmeth : ∀ i m j, S.cmeths.lookup (i, m) = some j → ∃ mc p f, ClX.CRead X.K (c.C i) mc ∧ ClX.CMet X.K (c.C i) mc m p f ∧ FnR X.prog X.w X.K X.mg X.base CX lv f (spOf c g j)
section
variable {S : Fs} {c : Cn} {g : G} {CX : CXT} {lv : Nat} {X : Cx} {W : XW} {σ : L2.St} {H : Hp}
/-- a name of the program's, neither of the two odd ones -/
def okNm (x : Str) : Bool := !(x == ("__debug__" : Str)) && !(x == ("__classdict__" : Str))
theorem okNm_d {x : Str} (h : okNm x = true) : (x == ("__debug__" : Str)) = false := by
  unfold okNm at h
  cases q : (x == ("__debug__" : Str))
  · rfl
  · rw [q] at h; cases h
theorem okNm_c {x : Str} (h : okNm x = true) : (x == ("__classdict__" : Str)) = false := by
  unfold okNm at h
  cases q : (x == ("__classdict__" : Str))
  · rfl
  · rw [q] at h; simp at h
def isVis (S : Fs) (x : Str) : Bool := match S.sc.names.lookup x with
  | some .local => true
  | some .cell => true
  | some .free => true
  | _ => false
def isGl (S : Fs) (x : Str) : Bool := match S.sc.names.lookup x with
  | some .globalImplicit => true
  | _ => false
def isLc (S : Fs) (x : Str) : Bool := match S.sc.names.lookup x with
  | some .local => true
  | _ => false
theorem Ok.vis (o : Ok S c g CX lv X) {x : Str} (h : isVis S x = true) : Vis X.env.scope x := by
  unfold isVis at h
  unfold Vis
  rw [o.sc]
  split at h
  · rename_i e; exact .inl e
  · rename_i e; exact .inr (.inl e)
  · rename_i e; exact .inr (.inr e)
  · cases h
theorem Ok.gl (o : Ok S c g CX lv X) {x : Str} (h : isGl S x = true) : Gl X x := by
  unfold isGl at h
  unfold Gl
  unfold Env.kindOf
  rw [o.sc]
  split at h
  · rename_i e; exact e
  · cases h
theorem Ok.lcl (o : Ok S c g CX lv X) {x : Str} (h : isLc S x = true) : X.env.scope.names.lookup x = some .local := by
  unfold isLc at h
  rw [o.sc]
  split at h
  · rename_i e; exact e
  · cases h
/-- .. a cell, too -/
def isLx (S : Fs) (x : Str) : Bool := match S.sc.names.lookup x with
  | some .local => true
  | some .cell => S.cells
  | _ => false
theorem Ok.lx (o : Ok S c g CX lv X) {x : Str} (h : isLx S x = true) : L2.Loc X.env.scope x ∧ (X.fn x = true ∨ X.env.scope.names.lookup x = some .local) := by
  unfold isLx at h
  unfold L2.Loc
  rw [o.sc]
  split at h
  · rename_i e; exact ⟨.inl e, .inr e⟩
  · rename_i e; exact ⟨.inr e, .inl (o.fnT h x)⟩
  · cases h
theorem Ok.ix (o : Ok S c g CX lv X) {i : Nat} {x : Str} (h : (S.N[i]? == some x) = true) : X.N[i]? = some x := by
  rw [o.n]
  exact eq_of_beq h
theorem f_var (o : Ok S c g CX lv X) {i : Nat} {x : Str} {pos : Pos} (h1 : (S.N[i]? == some x) = true) (h2 : isVis S x = true) (h3 : okNm x = true) : PE X (.Name x pos) (tE c W (evE g (.var i))) :=
  (pe_var (o.ix h1) (o.vis h2) (okNm_d h3) (okNm_c h3)).imp fun _ _ _ h => t_var h
end
end Mi

set_option Elab.async false
set_option linter.all false
set_option maxRecDepth 100000
set_option maxHeartbeats 400000
/-! Mi: the text fits the program's. -/
namespace Mi
open PySem L2 PyProof.Rows
section
variable {S : Fs} {c : Cn} {g : G} {CX : CXT} {lv : Nat} {X : Cx} {W : XW} {σ : L2.St} {H : Hp}
def Fs.blk (S : Fs) (scope : Scope) : Fs := { S with sc := relS scope S.sc, cells := false }
theorem Ok.blk (o : Ok S c g CX lv X) (s : Shared) (H : Hp) (scope : Scope) (C : Addr) (cl : List (Str × Addr)) (fp : List Addr) : Ok (S.blk scope) c g CX lv (X.blk s H scope (compEnvC scope cl C X.env) fp) where
  k := o.k
  n := o.n
  nd := o.nd
  sc := by
    show relS scope X.env.scope = relS scope S.sc
    rw [o.sc]
  calm := o.calm
  room := o.room
  units := o.units
  no := o.no
  own := PassesOwn.never
  fn := o.fn
  fnT := fun h => nomatch h
  gn := o.gn
  cl := o.cl
  ct := o.ct
  bl := o.bl
  fl := o.fl
  init := o.init
  meth := o.meth
  prop := o.prop
  cmeth := o.cmeth
theorem f_bor (o : Ok S c g CX lv X) {i : Nat} {x : Str} {pos : Pos} (h1 : (S.N[i]? == some x) = true) (h2 : isVis S x = true) (h3 : okNm x = true) : PE X (.Name x pos) (tE c W (evE g (.bor i))) :=
  (pe_var (o.ix h1) (o.vis h2) (okNm_d h3) (okNm_c h3)).imp fun _ _ _ h => t_bor h
theorem f_mv (o : Ok S c g CX lv X) {i : Nat} {x : Str} {pos : Pos} (h1 : (S.N[i]? == some x) = true) (h2 : isVis S x = true) (h3 : okNm x = true) : PE X (.Name x pos) (tE c W (evE g (.mv i))) :=
  (pe_var (o.ix h1) (o.vis h2) (okNm_d h3) (okNm_c h3)).imp fun _ _ _ h => t_mv h
def cstFit : D → Const → Bool
  | .non, .none => true
  | .bl b, .bool b' => b == b'
  | .int i, .int i' => i == i'
  | .str x, .str x' => x == x'
  | _, _ => false
theorem f_cst {d : D} {k : Const} {j : Nat} {pos : Pos} (h : cstFit d k = true) : PE X (.Constant k j pos) (tE c W (evE g (.cst d))) := by
  unfold cstFit at h
  split at h
  · exact pe_non.imp fun _ _ _ h => t_cst (fun _ _ => .non) h
  · have h := eq_of_beq h
    subst h
    exact pe_bl.imp fun _ _ _ h => t_cst (fun _ _ => .bl _) h
  · have h := eq_of_beq h
    subst h
    exact pe_int.imp fun _ _ _ h => t_cst (fun _ _ => .int _) h
  · have h := eq_of_beq h
    subst h
    exact pe_str.imp fun _ _ _ h => t_cst (fun _ _ => .str _) h
  · cases h
theorem f_gcst (o : Ok S c g CX lv X) {d : D} {x y : Str} {pos : Pos} (h1 : (S.ctOf.lookup x) = some d) (h2 : isGl S x = true) (h3 : okNm x = true) : PE X (.Name x pos) (tE c W (evE g (.gcst y d))) := by
  obtain ⟨u, v, e, r, rp⟩ := o.ct x d h1
  exact (pe_glob (o.gl h2) e r (okNm_d h3)).imp fun _ _ _ h => t_gcst rp h
theorem f_tup {es : List Expr} {ca : CA} {k : Nat} {pos : Pos} (ha : PA X es (tA c W (evA g ca))) : PE X (.Tuple es k pos) (tE c W (evE g (.tupE ca))) := (pe_tupF ha).imp fun _ _ _ h => t_tup h
theorem f_lst {es : List Expr} {ca : CA} {pos : Pos} (ha : PA X es (tA c W (evA g ca))) : PE X (.List es pos) (tE c W (evE g (.lstE ca))) := (pe_lst ha).imp fun _ _ _ h => t_lst h
theorem f_if {a b t : Expr} {ca cb : CE} {ct : CT} {pos : Pos} (ht : PT X t (tT c W (evT g ct))) (ha : PE X a (tE c W (evE g ca))) (hb : PE X b (tE c W (evE g cb))) : PE X (.IfExp t a b pos) (tE c W (evE g (.ite ct ca cb))) :=
  (pe_ifExp ht ha hb).imp fun _ _ _ h => t_ite h
def binFit : BI → Operator → Bool
  | .add, .Add => true
  | .sub, .Sub => true
  | .mul, .Mult => true
  | .fdiv, .FloorDiv => true
  | .mod, .Mod => true
  | .pow, .Pow => true
  | _, _ => false
theorem f_bin (o : Ok S c g CX lv X) {b : BI} {op : Operator} {ea eb : Expr} {ca cb : CE} {pos : Pos} (h : binFit b op = true) (ha : PE X ea (tE c W (evE g ca))) (hb : PE X eb (tE c W (evE g cb))) :
    PE X (.BinOp ea op eb pos) (tE c W (evE g (.bi b (.cons ca (.cons cb .nil))))) := by
  unfold binFit at h
  split at h
  · exact (pe_op (r := rAddA c.K) (by rw [← o.k]; exact op_addA) ha hb).imp fun _ _ _ h => bi2 b_add h
  · exact (pe_op op_sub ha hb).imp fun _ _ _ h => bi2 b_sub h
  · exact (pe_op op_mul ha hb).imp fun _ _ _ h => bi2 b_mul h
  · exact (pe_op op_fdivN ha hb).imp fun _ _ _ h => bi2 b_fdiv h
  · exact (pe_op op_modN ha hb).imp fun _ _ _ h => bi2 b_mod h
  · exact (pe_op op_pow ha hb).imp fun _ _ _ h => bi2 b_pow h
  · cases h
def cmFit : Cm → CmpOp → Bool
  | .eq, .Eq => true
  | .ne, .NotEq => true
  | .lt, .Lt => true
  | .le, .LtE => true
  | .gt, .Gt => true
  | .ge, .GtE => true
  | .isN, .Is => true
  | .notN, .IsNot => true
  | .isin, .In => true
  | .notin, .NotIn => true
  | _, _ => false
theorem f_cm (o : Ok S c g CX lv X) {b : Cm} {op : CmpOp} : cmFit b op = true → ∃ r : R2, OpR X (compareOp op) r ∧ B2 c (.cm b) r := by
  intro h
  have u64 : X.A.units + 64 < cLine := by have := o.units; omega
  have u65 : X.A.units + 65 < cLine := by have := o.units; omega
  unfold cmFit at h
  split at h
  · exact ⟨rEqA c.K, by rw [← o.k]; exact op_eqA u64, b_eq⟩
  · exact ⟨rNeA c.K, by rw [← o.k]; exact op_neA u64, b_ne⟩
  · exact ⟨_, op_lt, b_lt⟩
  · exact ⟨_, op_le, b_le⟩
  · exact ⟨_, op_gt, b_gt⟩
  · exact ⟨_, op_ge, b_ge⟩
  · exact ⟨_, op_isN, b_isN⟩
  · exact ⟨_, op_notN, b_notN⟩
  · exact ⟨rInA c.K false, by rw [← o.k]; exact op_inA u65, b_in⟩
  · exact ⟨rInA c.K true, by rw [← o.k]; exact op_notInA u65, b_notin⟩
  · cases h
theorem f_cmp (o : Ok S c g CX lv X) {b : Cm} {op : CmpOp} {ea eb : Expr} {ca cb : CE} {pos : Pos} (h : cmFit b op = true) (hs : isSet eb = false) (ha : PE X ea (tE c W (evE g ca))) (hb : PE X eb (tE c W (evE g cb))) :
    PE X (.Compare ea [op] [eb] pos) (tE c W (evE g (.bi (.cm b) (.cons ca (.cons cb .nil))))) := by
  obtain ⟨r, h1, h2⟩ := f_cm o h
  exact (pe_cmpR h1 ha hb (behind_plain hs)).imp fun _ _ _ h => bi2 h2 h
/-- a plain index: neither a slice nor a tuple -/
def plIx : Expr → Bool
  | .Name .. => true
  | .Constant .. => true
  | .BinOp .. => true
  | .Call .. => true
  | .Subscript .. => true
  | .UnaryOp .. => true
  | .Attribute .. => true
  | .IfExp .. => true
  | _ => false
theorem plIx_ok {e : Expr} (h : plIx e = true) : PlainIx e := by
  intro o i
  cases e <;> first | rfl | exact (Bool.noConfusion h)
theorem f_idx (o : Ok S c g CX lv X) {ea eb : Expr} {ca cb : CE} {pos : Pos} (h : plIx eb = true) (ha : PE X ea (tE c W (evE g ca))) (hb : PE X eb (tE c W (evE g cb))) :
    PE X (.Subscript ea eb pos) (tE c W (evE g (.bi .idx (.cons ca (.cons cb .nil))))) :=
  (pe_ix (r := rIxA c.K) (by rw [← o.k]; exact ix_any (by have := o.units; omega)) ha hb (plIx_ok h)).imp fun _ _ _ h => bi2 b_idx h
theorem f_nil : PA X [] (tA c W (evA g .nil)) := pa_nil.imp fun _ _ _ h => ta_nil h
theorem f_cons {e : Expr} {es : List Expr} {ce : CE} {ca : CA} (hs : isSt e = false) (he : PE X e (tE c W (evE g ce))) (ha : PA X es (tA c W (evA g ca))) : PA X (e :: es) (tA c W (evA g (.cons ce ca))) :=
  (pa_cons he ha (star_cons hs)).imp fun _ _ _ h => ta_cons h
end
end Mi

set_option Elab.async false
set_option linter.all false
set_option maxRecDepth 100000
set_option maxHeartbeats 400000
/-! Mi: tests. -/
namespace Mi
open PySem L2 PyProof.Rows
section
variable {S : Fs} {c : Cn} {g : G} {CX : CXT} {lv : Nat} {X : Cx} {W : XW} {σ : L2.St} {H : Hp}
theorem M.bind_ok {α β : Type} {m : M α} {k : α → M β} {s s2 : Sta} {b : β} (h : (m >>= k) s = .ok b s2) : ∃ a s1, m s = .ok a s1 ∧ k a s1 = .ok b s2 := by
  have e : (m >>= k) s = (match m s with | .ok a s' => k a s' | .exc c v s' => .exc c v s' | .bad => .bad) := rfl
  rw [e] at h
  cases q : m s with
  | ok a s' => rw [q] at h; exact ⟨a, s', rfl, h⟩
  | exc a b d => rw [q] at h; cases h
  | bad => rw [q] at h; cases h
theorem cm_bl {k : Cm} {es : CA} {s s1 : Sta} {r : R} (h : evE g (.bi (.cm k) es) s = .ok r s1) : ∃ b, r = .fz (.bl b) := by
  unfold evE at h
  obtain ⟨rs, s2, _, h⟩ := M.bind_ok h
  obtain ⟨ds, s3, _, h⟩ := M.bind_ok h
  match ds, h with
  | [], h => cases h
  | [_], h => cases h
  | _ :: _ :: _ :: _, h => cases h
  | [x, y], h =>
    have h : ofBR (.b (cmD k x y)) s3 = .ok r s1 := h
    cases q : cmD k x y with
    | none => rw [q] at h; cases h
    | some b => rw [q] at h; cases h; exact ⟨b, rfl⟩
theorem ch_bl {k l : Cm} {a b e : CE} {s s1 : Sta} {r : R} (h : evE g (.chain k l a b e) s = .ok r s1) : ∃ b, r = .fz (.bl b) := by
  unfold evE at h
  obtain ⟨x, s2, _, h⟩ := M.bind_ok h
  obtain ⟨y, s3, _, h⟩ := M.bind_ok h
  obtain ⟨ds, s4, _, h⟩ := M.bind_ok h
  have last : ∀ {ds : List D} {s s1 : Sta} {r : R}, ofBR (evBI (.cm l) ds) s = .ok r s1 → ∃ b, r = .fz (.bl b) := by
    intro ds s s1 r h
    match ds, h with
    | [], h => cases h
    | [_], h => cases h
    | _ :: _ :: _ :: _, h => cases h
    | [x, y], h =>
      have h : ofBR (.b (cmD l x y)) s = .ok r s1 := h
      cases q : cmD l x y with
      | none => rw [q] at h; cases h
      | some b => rw [q] at h; cases h; exact ⟨b, rfl⟩
  cases q : evBI (.cm k) ds with
  | bad => rw [q] at h; cases h
  | ow d => rw [q] at h; cases h
  | fz d =>
    rw [q] at h
    cases d with
    | bl b =>
      cases b with
      | false => cases h; exact ⟨_, rfl⟩
      | true =>
        obtain ⟨z, s5, _, h⟩ := M.bind_ok h
        obtain ⟨ds', s6, _, h⟩ := M.bind_ok h
        exact last h
    | _ => cases h
theorem tt_bl {e : CE} {Q : Bool → Hp → Prop} (hb : ∀ s r s1, evE g e s = .ok r s1 → ∃ b, r = .fz (.bl b)) (h : tT c W (evT g (.val e)) σ H Q) : tTest (tE c W (evE g e)) σ H Q := by
  obtain ⟨w, s, rfl, S, h⟩ := h
  unfold evT at h
  refine ⟨w, s, rfl, S, h.bind.eqs.imp fun r s1 w1 x S1 ⟨er, G⟩ v rr => ?_⟩
  obtain ⟨b, rfl⟩ := hb _ _ _ er
  have ev := RR.bl rr
  exact ⟨b, ev, Go.of_ok G (a := b) (s1 := s1) rfl x S1⟩
theorem ft_cmp (o : Ok S c g CX lv X) {b : Cm} {op : CmpOp} {ea eb : Expr} {ca cb : CE} {pos : Pos} (h : cmFit b op = true) (hs : isSet eb = false) (ha : PE X ea (tE c W (evE g ca))) (hb : PE X eb (tE c W (evE g cb))) :
    PT X (.Compare ea [op] [eb] pos) (tT c W (evT g (.val (.bi (.cm b) (.cons ca (.cons cb .nil)))))) := by
  obtain ⟨r, h1, h2⟩ := f_cm o h
  exact (pt_cmpR h1 ha hb (behind_plain hs)).imp fun _ _ _ h => bi2 h2 (tt_bl (fun _ _ _ => cm_bl) h)
theorem ft_val (o : Ok S c g CX lv X) {e : Expr} {ce : CE} (h : isTst e = false) (he : PE X e (tE c W (evE g ce))) : PT X e (tT c W (evT g (.val ce))) :=
  (pt_truth he (true_plain h)).imp fun _ _ _ h => by
    have z := tt_val h
    rw [← o.k] at z
    exact z
theorem ft_not {e : Expr} {ct : CT} {pos : Pos} (h : PT X e (tT c W (evT g ct))) : PT X (.UnaryOp .Not e pos) (tT c W (evT g (.not ct))) := (pt_not h).imp fun _ _ _ h => tt_not h
theorem lastM {x y : Expr} {op op' : CmpOp} (h : isSet y = false) : lastMarks [op, op'] [x, y] = false := by
  show behindInMarks op' y = false
  exact behind_plain h
theorem f_ch (o : Ok S c g CX lv X) {k l : Cm} {op op' : CmpOp} {ea eb ed : Expr} {ca cb cd : CE} {pos : Pos} (h : cmFit k op = true) (h' : cmFit l op' = true) (hs : isSet ed = false) (ha : PE X ea (tE c W (evE g ca))) (hb : PE X eb (tE c W (evE g cb))) (hd : PE X ed (tE c W (evE g cd))) :
    PE X (.Compare ea [op, op'] [eb, ed] pos) (tE c W (evE g (.chain k l ca cb cd))) := by
  obtain ⟨r, h1, h2⟩ := f_cm o h
  obtain ⟨r', h3, h4⟩ := f_cm o h'
  exact (pe_chain h1 h3 ha hb hd (lastM hs)).imp fun _ _ _ h => t_ch h2 h4 h
theorem ft_ch (o : Ok S c g CX lv X) {k l : Cm} {op op' : CmpOp} {ea eb ed : Expr} {ca cb cd : CE} {pos : Pos} (h : cmFit k op = true) (h' : cmFit l op' = true) (hs : isSet ed = false) (ha : PE X ea (tE c W (evE g ca))) (hb : PE X eb (tE c W (evE g cb))) (hd : PE X ed (tE c W (evE g cd))) :
    PT X (.Compare ea [op, op'] [eb, ed] pos) (tT c W (evT g (.val (.chain k l ca cb cd)))) := by
  obtain ⟨r, h1, h2⟩ := f_cm o h
  obtain ⟨r', h3, h4⟩ := f_cm o h'
  exact (pt_chain h1 h3 ha hb hd (lastM hs)).imp fun _ _ _ h => t_ch h2 h4 (tt_bl (fun _ _ _ => ch_bl) h)
theorem fw_and1 {e : Expr} {ct : CT} {pos : Pos} (h : PT X e (tT c W (evT g ct))) : PW X (.BoolOp .And [e] pos) (tT c W (evT g ct)) := pw_and1 h
theorem fw_or1 {e : Expr} {ct : CT} {pos : Pos} (h : PT X e (tT c W (evT g ct))) : PW X (.BoolOp .Or [e] pos) (tT c W (evT g ct)) := pw_or1 h
theorem PW.imp' {e : Expr} {t t' : TT} (h : PW X e t) (i : ∀ σ H Q, t' σ H Q → t σ H Q) : PW X e t' := ⟨fun wh pins s σ H Q I q => h.run wh pins s σ H Q I (i _ _ _ q)⟩
theorem fw_and {e f : Expr} {r : List Expr} {ct cu : CT} {pos : Pos} (h : PT X e (tT c W (evT g ct))) (h2 : PW X (.BoolOp .And (f :: r) pos) (tT c W (evT g cu))) : PW X (.BoolOp .And (e :: f :: r) pos) (tT c W (evT g (.and ct cu))) :=
  PW.imp' (pw_and h h2) fun _ _ _ h => tt_and h
theorem fw_or {e f : Expr} {r : List Expr} {ct cu : CT} {pos : Pos} (h : PT X e (tT c W (evT g ct))) (h2 : PW X (.BoolOp .Or (f :: r) pos) (tT c W (evT g cu))) : PW X (.BoolOp .Or (e :: f :: r) pos) (tT c W (evT g (.or ct cu))) :=
  PW.imp' (pw_or h h2) fun _ _ _ h => tt_or h
/-! .. as values -/
theorem f_one {op : BoolOp} {e : Expr} {ce : CE} {pos : Pos} (h : PE X e (tE c W (evE g ce))) : PE X (.BoolOp op [e] pos) (tE c W (evE g ce)) := pe_one h
theorem f_and {e f : Expr} {r : List Expr} {ca cb : CE} {pos : Pos} (h : PE X e (tE c W (evE g ca))) (h2 : PE X (.BoolOp .And (f :: r) pos) (tE c W (evE g cb))) : PE X (.BoolOp .And (e :: f :: r) pos) (tE c W (evE g (.and ca cb))) :=
  (pe_and h h2).imp fun _ _ _ h => t_and h
theorem f_or {e f : Expr} {r : List Expr} {ca cb : CE} {pos : Pos} (h : PE X e (tE c W (evE g ca))) (h2 : PE X (.BoolOp .Or (f :: r) pos) (tE c W (evE g cb))) : PE X (.BoolOp .Or (e :: f :: r) pos) (tE c W (evE g (.or ca cb))) :=
  (pe_or h h2).imp fun _ _ _ h => t_or h
theorem f_not {e : Expr} {ca : CE} {pos : Pos} (h : PE X e (tE c W (evE g ca))) : PE X (.UnaryOp .Not e pos) (tE c W (evE g (.not ca))) := (pe_not h).imp fun _ _ _ h => t_not h
end
end Mi

set_option Elab.async false
set_option linter.all false
set_option maxRecDepth 100000
set_option maxHeartbeats 400000
/-! Mi: calls. -/
namespace Mi
open PySem L2 PyProof.Rows
section
variable {S : Fs} {c : Cn} {g : G} {CX : CXT} {lv : Nat} {X : Cx} {W : XW} {σ : L2.St} {H : Hp}
def noSt (es : List Expr) : Bool := es.all fun e => !isSt e
theorem noSt_cons {e : Expr} {es : List Expr} (h : noSt (e :: es) = true) : isSt e = false ∧ noSt es = true := by
  unfold noSt at h ⊢
  rw [List.all_cons, Bool.and_eq_true] at h
  refine ⟨?_, h.2⟩
  cases q : isSt e
  · rfl
  · rw [q] at h; exact (Bool.noConfusion h.1)
theorem noSt_any {env : Env} {pos : Pos} : ∀ {es : List Expr}, noSt es = true → (backTo pos (starEach es env)).any (·.1) = false
  | [], _ => rfl
  | e :: es, h => by
    obtain ⟨h1, h2⟩ := noSt_cons h
    rw [star_cons h1]
    show (false || (backTo pos (starEach es env)).any (·.1)) = false
    rw [noSt_any h2]
    rfl
theorem f_args {es : List Expr} {ca : CA} (h : noSt es = true) (ha : PA X es (tA c W (evA g ca))) (hn : es = [] → ca = .nil) : PArg X es (tA c W (evA g ca)) := by
  cases es with
  | nil =>
    cases hn rfl
    exact parg_nil.imp fun _ _ _ h => ta_nil h
  | cons e es =>
    obtain ⟨h1, h2⟩ := noSt_cons h
    exact parg_plain ha (star_cons h1) fun pos => noSt_any h2
theorem Ok.pass (o : Ok S c g CX lv X) {E : L2.St → XK} : ∀ σ, PassesAt CX X σ (E σ) := fun _ _ _ _ _ _ _ z => (o.no _ _ _ _ _ _ z).elim
theorem f_call (o : Ok S c g CX lv X) {x : Str} {j : Nat} {es : List Expr} {ca : CA} {p pos : Pos} (h1 : S.fnOf.lookup x = some j) (h2 : isGl S x = true) (h3 : okNm x = true) (ha : PArg X es (tA c W (evA g ca))) :
    PE X (.Call (.Name x p) es [] pos) (tE c W (evE g (.call j ca))) := by
  obtain ⟨f, e1, e2, F⟩ := o.fn x j h1
  exact (pe_callP (E := wx c W) F (o.room.mono (Nat.le_succ _)) (o.gl h2) e1 e2 o.pass ha (okNm_d h3)).imp fun _ _ _ h => t_call h
theorem f_mk (o : Ok S c g CX lv X) {x : Str} {i j : Nat} {es : List Expr} {ca : CA} {p pos : Pos} (h0 : S.clOf.lookup x = some i) (h1 : S.inits.lookup i = some j) (h2 : isGl S x = true) (h3 : okNm x = true) (ha : PArg X es (tA c W (evA g ca))) :
    PE X (.Call (.Name x p) es [] pos) (tE c W (evE g (.mk i j ca))) := by
  obtain ⟨f, M, F⟩ := o.init i j h1
  exact (pe_makeP (E := wx c W) M F o.room (o.gl h2) (o.cl x i h0) o.pass ha (okNm_d h3)).imp fun _ _ _ h => t_mk h
theorem f_mkv (o : Ok S c g CX lv X) {x : Str} {i j n : Nat} {es : List Expr} {ca : CA} {p pos : Pos} (h1 : S.inits.lookup i = some j) (h2 : (S.N[n]? == some x) = true) (h4 : isVis S x = true) (h3 : okNm x = true) (ha : PArg X es (tA c W (evA g ca))) :
    PE X (.Call (.Name x p) es [] pos) (tE c W (evE g (.mkv n i j ca))) := by
  obtain ⟨f, M, F⟩ := o.init i j h1
  exact (pe_makeV (E := wx c W) M F o.room (o.ix h2) (o.vis h4) o.pass ha (okNm_d h3) (okNm_c h3)).imp fun _ _ _ h => t_mkv h
theorem f_fld (o : Ok S c g CX lv X) {e : Expr} {f : Str} {i k : Nat} {fs : List Str} {ce : CE} {pos : Pos} (h1 : S.flds[i]? = some fs) (h2 : fs[k]? = some f) (hb : isSup e = false) (he : PE X e (tE c W (evE g ce))) :
    PE X (.Attribute e f pos) (tE c W (evE g (.fld ce i k))) := by
  obtain ⟨q1, q2, q3, q4⟩ := o.fl i fs h1
  exact (pe_fld he (base_plain hb)).imp fun _ _ _ h => by
    rw [o.k] at q3 q4 ⊢
    exact t_fld (by rw [q1]; exact q2) (by rw [q1]; exact h2) q3 (q4 f (List.mem_of_getElem? h2)) h
theorem f_prop (o : Ok S c g CX lv X) (hW : ∀ k vs s w σ, ¬ W k vs s w σ) {e : Expr} {m : Str} {i j : Nat} {fs : List Str} {ce : CE} {pos : Pos} (h0 : S.flds[i]? = some fs) (hm : m ∉ fs) (h1 : S.props.lookup (i, m) = some j) (hb : isSup e = false) (he : PE X e (tE c W (evE g ce))) :
    PE X (.Attribute e m pos) (tE c W (evE g (.prop ce i m j))) := by
  obtain ⟨p, f, q1, F⟩ := o.prop i m j h1
  obtain ⟨q2, _, q3, _⟩ := o.fl i fs h0
  exact (pe_propP he q3 q1 F o.room (fun _ _ _ _ _ => o.no _ _ _ _ _ _) (base_plain hb)).imp fun _ _ _ h => t_prop (by rw [q2]; exact hm) hW h
end
end Mi

set_option Elab.async false
set_option linter.all false
set_option maxRecDepth 100000
set_option maxHeartbeats 400000
/-! Mi: methods. -/
namespace Mi
open PySem L2 PyProof.Rows
theorem noSt_form {env : Env} {pos : Pos} {es : List Expr} (h : noSt es = true) (hl : es.length < 30) : methodCallForm (es.length + ([] : List Keyword).length) (backTo pos (starEach es env)) (backToKw pos (keywordEach [] env)) = true := by
  have a : (backTo pos (starEach es env)).all (!·.1) = true := by
    have z := noSt_any (env := env) (pos := pos) h
    rw [List.any_eq_false] at z
    rw [List.all_eq_true]
    intro x hx
    have := z x hx
    cases q : x.1
    · rfl
    · exact (this q).elim
  unfold methodCallForm
  rw [a]
  show (true && true && decide (es.length + 0 + 0 < 30)) = true
  simp [hl]
theorem ht_plain {o : Expr} {m : Str} {apos pos : Pos} {es : List Expr} {env : Env} (hb : isSup o = false) (h : noSt es = true) (hl : es.length < 30) (hline : (apos.endLine == pos.line) = true) :
    eval (.Call (.Attribute o m apos) es [] pos) env = (do
      let ov ← eval o env
      standAt apos.atName
      let (f, first) ← holding [ov] (getMethod ov m (do return (← importBound o env).getD true))
      callWith pos f first (backTo pos (starEach es env)) (backToKw pos (keywordEach [] env))) := by
  show (do
    let ov ← attributeBase o m env (eval o env)
    standAt apos.atName
    methodCall o m apos pos env ov (es.length + ([] : List Keyword).length) (backTo pos (starEach es env)) (backToKw pos (keywordEach [] env))) = _
  rw [base_plain hb]
  have e : ∀ ov, methodCall o m apos pos env ov (es.length + ([] : List Keyword).length) (backTo pos (starEach es env)) (backToKw pos (keywordEach [] env)) = (do
      let (f, first) ← holding [ov] (getMethod ov m (do return (← importBound o env).getD true))
      callWith pos f first (backTo pos (starEach es env)) (backToKw pos (keywordEach [] env))) := fun ov => by
    unfold methodCall calleeOf methodCallPos
    rw [noSt_form h hl]
    simp only [if_true, Bool.not_true, Bool.false_or, hline]
    rfl
  simp only [e]
section
variable {S : Fs} {c : Cn} {g : G} {CX : CXT} {lv : Nat} {X : Cx} {W : XW} {σ : L2.St} {H : Hp}
theorem f_meth (o : Ok S c g CX lv X) {e : Expr} {m : Str} {i j : Nat} {fs : List Str} {ce : CE} {es : List Expr} {ca : CA} {apos pos : Pos} (h0 : S.flds[i]? = some fs) (hm : m ∉ fs) (h1 : S.meths.lookup (i, m) = some j) (hb : isSup e = false) (hs : noSt es = true) (hl : es.length < 30) (hline : (apos.endLine == pos.line) = true)
    (he : PE X e (tE c W (evE g ce))) (ha : PArg X es (tA c W (evA g ca))) : PE X (.Call (.Attribute e m apos) es [] pos) (tE c W (evE g (.meth ce i m j ca))) := by
  obtain ⟨f, M, F⟩ := o.meth i m j h1
  obtain ⟨q2, _, q3, _⟩ := o.fl i fs h0
  exact (pe_methP (E := wx c W) he q3 M F (o.room.mono (Nat.le_succ _)) o.pass ha (ht_plain hb hs hl hline)).imp fun _ _ _ h => t_meth (by rw [q2]; exact hm) h
end
end Mi

set_option Elab.async false
set_option linter.all false
set_option maxRecDepth 100000
set_option maxHeartbeats 400000
/-! Mi: built-in functions. -/
namespace Mi
open PySem L2 PyProof.Rows
section
variable {S : Fs} {c : Cn} {g : G} {CX : CXT} {lv : Nat} {X : Cx} {W : XW} {σ : L2.St} {H : Hp}
theorem f_b1 (o : Ok S c g CX lv X) {b : BI} {x : Str} {id : String} {r : List V → Hp → VK → Prop} {e : Expr} {ce : CE} {p pos : Pos} (hc : CallR X (.builtin id) r) (hb : B1 c b fun x => r [x]) (hv : bootBuiltins x = some (.builtin id)) (hm : X.mg x = none) (h2 : isGl S x = true) (h3 : okNm x = true) (hn : x ≠ "__name__") (hs : isSt e = false) (he : PE X e (tE c W (evE g ce))) :
    PE X (.Call (.Name x p) [e] [] pos) (tE c W (evE g (.bi b (.cons ce .nil)))) :=
  (pe_callB hc (o.gl h2) hm hv (pa_cons he pa_nil (star_cons hs)) hn (okNm_d h3) (star_cons hs) rfl).imp fun _ _ _ h => bi1 hb h
theorem f_t1 (o : Ok S c g CX lv X) {b : BI} {x : Str} {T : String} {r : List V → Hp → VK → Prop} {e : Expr} {ce : CE} {p pos : Pos} (hc : CallR X (.type T) r) (hb : B1 c b fun x => r [x]) (hv : bootBuiltins x = some (.type T)) (hm : X.mg x = none) (h2 : isGl S x = true) (h3 : okNm x = true) (hn : x ≠ "__name__") (hs : isSt e = false) (he : PE X e (tE c W (evE g ce))) :
    PE X (.Call (.Name x p) [e] [] pos) (tE c W (evE g (.bi b (.cons ce .nil)))) :=
  (pe_callTy hc (o.gl h2) hm hv (pa_cons he pa_nil (star_cons hs)) hn (okNm_d h3) (star_cons hs) rfl).imp fun _ _ _ h => bi1 hb h
theorem f_len (o : Ok S c g CX lv X) {e : Expr} {ce : CE} {p pos : Pos} (h2 : isGl S "len" = true) (hs : isSt e = false) (he : PE X e (tE c W (evE g ce))) : PE X (.Call (.Name "len" p) [e] [] pos) (tE c W (evE g (.bi .len (.cons ce .nil)))) :=
  f_b1 o (r := rLenA c.K) (by rw [← o.k]; exact call_lenA) b_len boot_len (o.bl _ (by decide)) h2 (by decide) (by decide) hs he
theorem f_lst1 (o : Ok S c g CX lv X) {e : Expr} {ce : CE} {p pos : Pos} (h2 : isGl S "list" = true) (hs : isSt e = false) (he : PE X e (tE c W (evE g ce))) : PE X (.Call (.Name "list" p) [e] [] pos) (tE c W (evE g (.bi .toLst (.cons ce .nil)))) :=
  f_t1 o (r := rLstA c.K) (by rw [← o.k]; exact call_listA o.calm) b_toLst boot_list (o.bl _ (by decide)) h2 (by decide) (by decide) hs he
theorem f_dic1 (o : Ok S c g CX lv X) {e : Expr} {ce : CE} {p pos : Pos} (h2 : isGl S "dict" = true) (hs : isSt e = false) (he : PE X e (tE c W (evE g ce))) : PE X (.Call (.Name "dict" p) [e] [] pos) (tE c W (evE g (.bi .toDic (.cons ce .nil)))) :=
  f_t1 o (r := rDicA c.K) (by rw [← o.k]; exact call_dicA o.calm) b_toDic boot_dict (o.bl _ (by decide)) h2 (by decide) (by decide) hs he
theorem f_int (o : Ok S c g CX lv X) {e : Expr} {ce : CE} {p pos : Pos} (h2 : isGl S "int" = true) (hs : isSt e = false) (he : PE X e (tE c W (evE g ce))) : PE X (.Call (.Name "int" p) [e] [] pos) (tE c W (evE g (.bi .toInt (.cons ce .nil)))) :=
  f_t1 o call_int1 b_int (by decide +kernel) (o.bl _ (by decide)) h2 (by decide) (by decide) hs he
theorem f_tup1 (o : Ok S c g CX lv X) {e : Expr} {ce : CE} {p pos : Pos} (h2 : isGl S "tuple" = true) (hs : isSt e = false) (he : PE X e (tE c W (evE g ce))) : PE X (.Call (.Name "tuple" p) [e] [] pos) (tE c W (evE g (.bi .toTup (.cons ce .nil)))) :=
  f_t1 o (r := fun xs H Q => (∃ x, xs = [x] ∧ kTupF c.K x H Q) ∨ ∃ a kvs, xs = [.ref a] ∧ Rd H a (.dK kvs) ∧ newT (kvs.map fun kv => kV kv.1) H Q) (by rw [← o.k]; exact call_tupleF.or (call_tuple_dK o.calm))
    (fun w s σ d v Q S h p => (b_toTup w s σ d v Q S h p).imp id fun ⟨a, kvs, e, z⟩ => ⟨a, kvs, by rw [e], z⟩) (by decide +kernel) (o.bl _ (by decide)) h2 (by decide) (by decide) hs he
theorem f_all (o : Ok S c g CX lv X) {e : Expr} {ce : CE} {p pos : Pos} (h2 : isGl S "all" = true) (hs : isSt e = false) (he : PE X e (tE c W (evE g ce))) : PE X (.Call (.Name "all" p) [e] [] pos) (tE c W (evE g (.bi .all (.cons ce .nil)))) :=
  f_b1 o (id := "all") (r := rAll c.K) (by rw [← o.k]; exact cr_all o.calm) b_all (by decide +kernel) (o.bl _ (by decide)) h2 (by decide) (by decide) hs he
theorem ty_boot (t : Ty) : bootBuiltins (Str.ofString (tyN t)) = some (.type (tyN t)) := by
  cases t <;> decide +kernel
theorem f_ty (o : Ok S c g CX lv X) {t : Ty} {q : Pos} (h2 : isGl S (Str.ofString (tyN t)) = true) : PE X (.Name (Str.ofString (tyN t)) q) (tC (.ty (tyN t))) :=
  pe_bltn (o.gl h2) (o.bl _ (by cases t <;> decide)) (ty_boot t) rfl (by cases t <;> decide) (by cases t <;> decide)
theorem f_isi (o : Ok S c g CX lv X) {t : Ty} {e : Expr} {ce : CE} {p q pos : Pos} (h0 : isGl S "isinstance" = true) (h2 : isGl S (Str.ofString (tyN t)) = true) (hs : isSt e = false) (he : PE X e (tE c W (evE g ce))) :
    PE X (.Call (.Name "isinstance" p) [e, .Name (Str.ofString (tyN t)) q] [] pos) (tE c W (evE g (.bi (.isinst [t]) (.cons ce .nil)))) :=
  (pe_callB (r := rIsi c.K) (by rw [← o.k]; exact call_isi) (o.gl h0) (o.bl _ (by decide)) (id := "isinstance") (by decide +kernel) (pa_cons he (pa_cons (f_ty o h2) pa_nil rfl) (star_cons hs)) (by decide) (by decide) (star_cons hs) rfl).imp fun _ _ _ h => bi1 b_isi h
end
end Mi

set_option Elab.async false
set_option linter.all false
set_option maxRecDepth 100000
set_option maxHeartbeats 400000
/-! Mi: what is walked. -/
namespace Mi
open PySem L2 PyProof.Rows
section
variable {S : Fs} {c : Cn} {g : G} {CX : CXT} {lv : Nat} {X : Cx} {W : XW} {σ : L2.St} {H : Hp} {tg : Expr}
theorem fi_val (o : Ok S c g CX lv X) {e : Expr} {ce : CE} (he : PE X e (tE c W (evE g ce))) : PI X tg e (tI (c := c) (W := W) (evI g (.val ce)) false) :=
  ((pi_list he).or ((pi_tup he).or (pi_str he))).imp fun _ _ _ h => by
    rw [o.k]
    exact src_val h
theorem fi_rng1 (o : Ok S c g CX lv X) {e : Expr} {ce : CE} {p pos : Pos} (h2 : isGl S "range" = true) (hs : isSt e = false) (he : PE X e (tE c W (evE g ce))) : PI X tg (.Call (.Name "range" p) [e] [] pos) (tI (c := c) (W := W) (evI g (.rng1 ce)) false) :=
  (pi_range1 (o.gl h2) (o.bl _ (by decide)) (pa_cons he pa_nil (star_cons hs)) (star_cons hs)).imp fun _ _ _ h => src_rng1 h
theorem fi_rng2 (o : Ok S c g CX lv X) {e f : Expr} {ce cf : CE} {p pos : Pos} (h2 : isGl S "range" = true) (hs : isSt e = false) (ht : isSt f = false) (he : PE X e (tE c W (evE g ce))) (hf : PE X f (tE c W (evE g cf))) : PI X tg (.Call (.Name "range" p) [e, f] [] pos) (tI (c := c) (W := W) (evI g (.rng2 ce cf)) false) :=
  (pi_range2 (o.gl h2) (o.bl _ (by decide)) (pa_cons he (pa_cons hf pa_nil (star_cons ht)) (star_cons hs)) (by rw [star_cons hs, star_cons ht]; rfl) (star_cons ht)).imp fun _ _ _ h => src_rng2 h
theorem fi_enum (o : Ok S c g CX lv X) {e : Expr} {ce : CE} {p pos tpos : Pos} {elts : List Expr} {kk : Nat} (h2 : isGl S "enumerate" = true) (hs : isSt e = false) (he : PE X e (tE c W (evE g ce))) : PI X (.Tuple elts kk tpos) (.Call (.Name "enumerate" p) [e] [] pos) (tI (c := c) (W := W) (evI g (.enum ce)) true) :=
  (pi_enumB (o.gl h2) (o.bl _ (by decide)) (pa_cons he pa_nil (star_cons hs)) (star_cons hs)).imp fun _ _ _ h => by
    rw [o.k]
    exact src_enum h
theorem fi_zip (o : Ok S c g CX lv X) {e f : Expr} {ce cf : CE} {p pos tpos : Pos} {elts : List Expr} {kk : Nat} (h2 : isGl S "zip" = true) (hs : isSt e = false) (ht : isSt f = false) (he : PE X e (tE c W (evE g ce))) (hf : PE X f (tE c W (evE g cf))) : PI X (.Tuple elts kk tpos) (.Call (.Name "zip" p) [e, f] [] pos) (tI (c := c) (W := W) (evI g (.zip ce cf)) true) :=
  (pi_zipB (o.gl h2) (o.bl _ (by decide)) (pa_cons he (pa_cons hf pa_nil (star_cons ht)) (star_cons hs)) (star_cons hs) (by rw [star_cons ht]; rfl)).imp fun _ _ _ h => by
    rw [o.k]
    exact src_zip h
end
end Mi

set_option Elab.async false
set_option linter.all false
set_option maxRecDepth 100000
set_option maxHeartbeats 400000
/-! Mi: targets and statements. -/
namespace Mi
open PySem L2 PyProof.Rows
section
variable {S : Fs} {c : Cn} {g : G} {CX : CXT} {lv : Nat} {X : Cx} {W : XW} {P : L2.St → Prop} {σ : L2.St} {H : Hp}
theorem PSs.imp' {sts : List Stmt} {t t' : L2.TS} (h : PSs X sts t) (i : ∀ D σ H, t' D σ H → t D σ H) : PSs X sts t' := ⟨fun pins s σ H D I q => h.run pins s σ H D I (i _ _ _ q)⟩
theorem PS.imp' {st : Stmt} {t t' : L2.TS} (h : PS X st t) (i : ∀ D σ H, t' D σ H → t D σ H) : PS X st t' := ⟨fun pins s σ H D I q => h.run pins s σ H D I (i _ _ _ q)⟩
theorem fb_nil : PSs X [] (tS c W P (evB g .nil)) := PSs.imp' pss_nil fun _ _ _ h => b_nil h
theorem fb_cons {st : Stmt} {r : List Stmt} {cs : CS} {cb : CB} (h1 : PS X st (tS c W P (evS g cs))) (h2 : PSs X r (tS c W P (evB g cb))) : PSs X (st :: r) (tS c W P (evB g (.cons cs cb))) := PSs.imp' (pss_cons h1 h2) fun _ _ _ h => b_cons h
theorem fs_pass {pos : Pos} : PS X (.Pass pos) (tS c W P (evS g .pass)) := PS.imp' ps_pass fun _ _ _ h => s_pass h
theorem fs_brk {pos : Pos} : PS X (.Break pos) (tS c W P (evS g .brk)) := PS.imp' ps_break fun _ _ _ h => s_brk h
theorem fs_cnt {pos : Pos} : PS X (.Continue pos) (tS c W P (evS g .cnt)) := PS.imp' ps_continue fun _ _ _ h => s_cnt h
theorem fs_never {st : Stmt} : PS X st (tS c W P (evS g .never)) := PS.imp' ps_never fun _ _ _ h => s_never h
theorem fs_ret {e : Expr} {ce : CE} {pos : Pos} (he : PE X e (tE c W (evE g ce))) : PS X (.Return (some e) pos) (tS c W P (evS g (.ret ce))) := PS.imp' (ps_ret he) fun _ _ _ h => s_ret h
theorem fs_retN {pos : Pos} : PS X (.Return none pos) (tS c W P (evS g .retN)) := PS.imp' ps_retN fun _ _ _ h => s_retN h
theorem fs_expr {e : Expr} {ce : CE} {pos : Pos} (hc : isComp e = false) (he : PE X e (tE c W (evE g ce))) : PS X (.Expr e pos) (tS c W P (evS g (.expr ce))) := PS.imp' (ps_expr he (swaps_plain hc)) fun _ _ _ h => s_expr h
theorem fs_ite {e : Expr} {a b : List Stmt} {ct : CT} {ca cb : CB} {pos : Pos} (ht : PT X e (tT c W (evT g ct))) (ha : PSs X a (tS c W P (evB g ca))) (hb : PSs X b (tS c W P (evB g cb))) : PS X (.If e a b pos) (tS c W P (evS g (.ite ct ca cb))) := PS.imp' (ps_if ht ha hb) fun _ _ _ h => s_ite h
theorem fs_while (o : Ok S c g CX lv X) {e : Expr} {b : List Stmt} {ct : CT} {cb : CB} {pos : Pos} (ht : PT X e (tT c W (evT g ct))) (hb : PSs X b (tS c W P (evB g cb))) : PS X (.While e b [] pos) (tS c W P (evS g (.whil ct cb))) := PS.imp' (ps_while o.own ht hb) fun _ _ _ h => s_while h
theorem fs_for (o : Ok S c g CX lv X) {tg it : Expr} {t : Tg} {b : List Stmt} {src : CI} {cb : CB} {pr : Bool} {pos : Pos} (hp : pr = true → pairTg t = true) (hP : ∀ σ σ', Same (tgIx t) σ σ' → P σ → P σ') (hs : isSet it = false) (hi : PI X tg it (tI (c := c) (W := W) (evI g src) pr)) (hg : PG X tg (gT c.K t)) (hb : PSs X b (tS c W P (evB g cb))) :
    PS X (.For tg it b [] pos) (tS c W P (evS g (.forS t src cb))) := PS.imp' (ps_for o.own o.calm hi hg hb (folded_plain hs)) fun _ _ _ h => s_for hp hP h
theorem fs_asg (o : Ok S c g CX lv X) {i : Nat} {w : Bool} {x : Str} {e : Expr} {ce : CE} {q pos : Pos} (hP : ∀ σ v, P σ → P (σ.set i (some v))) (h1 : (S.N[i]? == some x) = true) (h2 : isLx S x = true) (hc : isComp e = false) (he : PE X e (tE c W (evE g ce))) :
    PS X (.Assign [.Name x q] e pos) (tS c W P (evS g (.asg i w ce))) := PS.imp' (ps_set o.nd (o.ix h1) (o.lx h2).1 he (swaps_plain hc) (o.lx h2).2) fun _ _ _ h => s_asg (fun v p => hP _ v p) h
theorem fv (o : Ok S c g CX lv X) {i : Nat} {x : Str} {q : Pos} (h1 : (S.N[i]? == some x) = true) (h2 : isVis S x = true) (h3 : okNm x = true) : PE X (.Name x q) (tVar i) := pe_var (o.ix h1) (o.vis h2) (okNm_d h3) (okNm_c h3)
theorem fs_setF (o : Ok S c g CX lv X) {i cc k : Nat} {x f : Str} {fs : List Str} {e : Expr} {ce : CE} {q q2 pos : Pos} (h0 : S.flds[cc]? = some fs) (hl : fs.length < 1000) (hf : fs[k]? = some f) (h1 : (S.N[i]? == some x) = true) (h2 : isVis S x = true) (h3 : okNm x = true) (hc : isComp e = false) (he : PE X e (tE c W (evE g ce))) :
    PS X (.Assign [.Attribute (.Name x q) f q2] e pos) (tS c W P (evS g (.setF i cc k ce))) := by
  obtain ⟨q1, q2', q3, q4⟩ := o.fl cc fs h0
  refine PS.imp' (ps_fld (fv o h1 h2 h3) he (swaps_plain hc)) fun _ _ _ h => ?_
  rw [o.k] at q3 q4 ⊢
  exact s_setF (by rw [q1]; exact q2') (by rw [q1]; exact hl) (by rw [q1]; exact hf) q3 (q4 f (List.mem_of_getElem? hf)) h
theorem fs_setI (o : Ok S c g CX lv X) {i : Nat} {x : Str} {e ie : Expr} {ce ci : CE} {q q2 pos : Pos} (h1 : (S.N[i]? == some x) = true) (h2 : isVis S x = true) (h3 : okNm x = true) (hi : plIx ie = true) (hc : isComp e = false) (he : PE X e (tE c W (evE g ce))) (hie : PE X ie (tE c W (evE g ci))) :
    PS X (.Assign [.Subscript (.Name x q) ie q2] e pos) (tS c W P (evS g (.setI i ci ce))) := by
  have hg : PG X (.Subscript (.Name x q) ie q2) (gSub (tVar i) (tE c W (evE g ci)) rSetA) := pg_sub (fv o h1 h2 h3) hie (set_any (by have := o.units; omega)) (by
    intro v
    cases ie <;> first | rfl | exact (Bool.noConfusion hi))
  exact PS.imp' (ps_asg he hg (swapsSole_plain hc) (stores_plain (.inl rfl)) rfl) fun _ _ _ h => s_setI h
theorem fs_app (o : Ok S c g CX lv X) {i : Nat} {x : Str} {e : Expr} {ce : CE} {q apos cpos pos : Pos} (h1 : (S.N[i]? == some x) = true) (h2 : isVis S x = true) (h3 : okNm x = true) (hs : isSt e = false) (hline : (apos.endLine == cpos.line) = true) (he : PE X e (tE c W (evE g ce))) :
    PS X (.Expr (.Call (.Attribute (.Name x q) "append" apos) [e] [] cpos) pos) (tS c W P (evS g (.app i ce))) := by
  have hb := pe_bm (X := X) (cpos := cpos) (apos := apos) PySem.F.plainAttrs_list PySem.F.slot_list_append PySem.F.type_list_append mt_append (fv (q := q) o h1 h2 h3) (pa_cons he pa_nil (star_cons hs)) (base_plain rfl) (by rw [star_cons hs]; rfl) hline (star_cons hs) rfl
  refine PS.imp' (ps_expr hb (swaps_plain rfl)) fun _ _ _ h => ?_
  rw [o.k]
  exact s_app h
end
end Mi

set_option Elab.async false
set_option linter.all false
set_option maxRecDepth 100000
set_option maxHeartbeats 400000
/-! Mi: targets. -/
namespace Mi
open PySem L2 PyProof.Rows
section
variable {S : Fs} {c : Cn} {g : G} {CX : CXT} {lv : Nat} {X : Cx} {W : XW} {P : L2.St → Prop} {σ : L2.St} {H : Hp}
theorem fg_nm (o : Ok S c g CX lv X) {i : Nat} {x : Str} {q : Pos} (h1 : (S.N[i]? == some x) = true) (h2 : isLx S x = true) : PG X (.Name x q) (gT c.K (.nm i)) := pg_name o.nd (o.ix h1) (o.lx h2).1 (o.lx h2).2
theorem fg_nil : PGs X [] (gNms []) := pgs_nil
theorem fg_cons (o : Ok S c g CX lv X) {i : Nat} {is : List Nat} {x : Str} {q : Pos} {es : List Expr} (h1 : (S.N[i]? == some x) = true) (h2 : isLx S x = true) (h : PGs X es (gNms is)) : PGs X (.Name x q :: es) (gNms (i :: is)) := pgs_cons (fg_nm o h1 h2) h (assign_map rfl)
theorem fg_tn (o : Ok S c g CX lv X) {is : List Nat} {es : List Expr} {k : Nat} {pos : Pos} (hs : es.all (fun e => !isSt e) = true) (hl : es.length = is.length) (h : PGs X es (gNms is)) : PG X (.Tuple es k pos) (gT c.K (.tn is)) := by
  have z := assign_len (env := X.env) hs
  have q := pg_tup (pos := pos) (k := k) o.calm h (n := is.length) (by rw [z.1, hl]) z.2
  rw [o.k] at q
  exact q
theorem fg_t2 (o : Ok S c g CX lv X) {a b : Tg} {ea eb : Expr} {k : Nat} {pos : Pos} (ha : isSt ea = false) (hb : isSt eb = false) (h1 : PG X ea (gT c.K a)) (h2 : PG X eb (gT c.K b)) : PG X (.Tuple [ea, eb] k pos) (gT c.K (.t2 a b)) := by
  have z := assign_len (env := X.env) (es := [ea, eb]) (by simp [ha, hb])
  have q := pg_tup (pos := pos) (k := k) o.calm (pgs_cons h1 (pgs_cons h2 pgs_nil (assign_map hb)) (assign_map ha)) (n := 2) z.1 z.2
  rw [o.k] at q
  exact q
theorem fs_asgT (o : Ok S c g CX lv X) {tg : Tg} {t e : Expr} {ce : CE} {pos : Pos} (hP : ∀ σ σ', Same (tgIx tg) σ σ' → P σ → P σ') (hs : isSt t = false) (hc : isComp e = false) (ht : isTup e = false) (hg : PG X t (gT c.K tg)) (he : PE X e (tE c W (evE g ce))) : PS X (.Assign [t] e pos) (tS c W P (evS g (.asgT tg ce))) :=
  PS.imp' (ps_asg he hg (swapsSole_plain hc) (stores_plain (.inr ht)) (by rw [assign_map hs]; rfl)) fun _ _ _ h => s_asgT hP h
theorem fs_mseq (o : Ok S c g CX lv X) {i j k : Nat} {x n1 n2 : Str} {gd : Expr} {ct : CT} {b1 b2 : List Stmt} {ca cb : CB} {q q1 q2 q3 q4 pos : Pos} (hP : ∀ σ σ', Same [j, k] σ σ' → P σ → P σ') (h1 : (S.N[i]? == some x) = true) (h2 : isVis S x = true) (h3 : okNm x = true) (hj : (S.N[j]? == some n1) = true) (lj : isLx S n1 = true) (hk : (S.N[k]? == some n2) = true) (lk : isLx S n2 = true)
    (hg : PT X gd (tT c W (evT g ct))) (ha : PSs X b1 (tS c W P (evB g ca))) (hb : PSs X b2 (tS c W P (evB g cb))) :
    PS X (.Match (.Name x q) [⟨.MatchSequence [.MatchAs none (some n1) q1, .MatchAs none (some n2) q2] q3, some gd, b1⟩, ⟨.MatchAs none none q4, none, b2⟩] pos) (tS c W P (evS g (.mseq i [j, k] ct ca cb))) :=
  PS.imp' (ps_mseq2 o.calm (fv o h1 h2 h3) o.nd (o.ix hj) (o.ix hk) (o.lx lj).1 (o.lx lk).1 hg ha hb (o.lx lj).2 (o.lx lk).2) fun _ _ _ h => by
    rw [o.k]
    exact s_mseq hP h
end
end Mi

set_option Elab.async false
set_option linter.all false
set_option maxRecDepth 100000
set_option maxHeartbeats 400000
/-! Mi: slices. -/
namespace Mi
open PySem L2 PyProof.Rows
section
variable {S : Fs} {c : Cn} {g : G} {CX : CXT} {lv : Nat} {X : Cx} {W : XW} {σ : L2.St} {H : Hp}
theorem f_sl00 (o : Ok S c g CX lv X) {e : Expr} {ce : CE} {q pos : Pos} (he : PE X e (tE c W (evE g ce))) : PE X (.Subscript e (.Slice none none none q) pos) (tE c W (evE g (.bi (.slc false false) (.cons ce .nil)))) :=
  (pe_slice (r := rSlA' c.K) (by rw [← o.k]; exact sl_A) he po_none po_none).imp fun _ _ _ h => bi1 b_slc00 h
theorem f_sl01 (o : Ok S c g CX lv X) {e f : Expr} {ce cf : CE} {q pos : Pos} (he : PE X e (tE c W (evE g ce))) (hf : PE X f (tE c W (evE g cf))) : PE X (.Subscript e (.Slice none (some f) none q) pos) (tE c W (evE g (.bi (.slc false true) (.cons ce (.cons cf .nil))))) :=
  (pe_slice (r := rSlA' c.K) (by rw [← o.k]; exact sl_A) he po_none (po_some hf)).imp fun _ _ _ h => bi2 b_slc01 h
theorem f_sl10 (o : Ok S c g CX lv X) {e f : Expr} {ce cf : CE} {q pos : Pos} (he : PE X e (tE c W (evE g ce))) (hf : PE X f (tE c W (evE g cf))) : PE X (.Subscript e (.Slice (some f) none none q) pos) (tE c W (evE g (.bi (.slc true false) (.cons ce (.cons cf .nil))))) :=
  (pe_slice (r := rSlA' c.K) (by rw [← o.k]; exact sl_A) he (po_some hf) po_none).imp fun _ _ _ h => bi2 b_slc10 h
theorem tE.mono {m : M R} {Q Q' : VK} {σ : L2.St} {H : Hp} (h : tE c W m σ H Q) (i : ∀ v H, Q v H → Q' v H) : tE c W m σ H Q' := by
  obtain ⟨w, s, e, S, G⟩ := h
  exact ⟨w, s, e, S, G.imp fun r s1 w1 x S1 q v rr => i _ _ (q v rr)⟩
/-- a[lo:k], k written -/
theorem f_sl11 (o : Ok S c g CX lv X) {e f : Expr} {ce cf : CE} {k : Int} {j : Nat} {q p pos : Pos} (he : PE X e (tE c W (evE g ce))) (hf : PE X f (tE c W (evE g cf))) : PE X (.Subscript e (.Slice (some f) (some (.Constant (.int k) j p)) none q) pos) (tE c W (evE g (.bi (.slc true true) (.cons ce (.cons cf (.cons (.cst (.int k)) .nil)))))) :=
  (pe_slice (r := rSlA' c.K) (by rw [← o.k]; exact sl_A) he (po_some hf) (po_some pe_int)).imp fun _ _ _ h => tE.mono (bi3 b_slc11 h) fun x H1 h => tE.mono h fun y H2 h => by
    obtain ⟨i, e1, j, e2, z⟩ := t_cst (v := .int k) (fun _ _ => .int _) h
    cases e2
    exact ⟨i, e1, k, rfl, z⟩
end
end Mi

set_option Elab.async false
set_option linter.all false
set_option maxRecDepth 100000
set_option maxHeartbeats 400000
/-! Mi: {}, methods of the built-in types, star arguments. -/
namespace Mi
open PySem L2 PyProof.Rows
section
variable {S : Fs} {c : Cn} {g : G} {CX : CXT} {lv : Nat} {X : Cx} {W : XW} {σ : L2.St} {H : Hp}
theorem f_dic {pos : Pos} : PE X (.Dict [] [] pos) (tE c W (evE g .dicE)) := pe_dnewK.imp fun _ _ _ h => t_dic h
def bmFit : BI → Str → Bool
  | .count, n => n == "count"
  | .index, n => n == "index"
  | .getD, n => n == "get"
  | _, _ => false
theorem f_few {env : Env} {pos : Pos} {e : Expr} {es : List Expr} (h : noSt (e :: es) = true) (hl : (e :: es).length < 30) : ((backTo pos (starEach (e :: es) env)).all (fun x => !x.1) && (backToKw pos (keywordEach [] env)).all (fun x => x.1.isSome)
      && decide ((e :: es).length + ([] : List Keyword).length + (if ([] : List Keyword).isEmpty then 0 else 1) < 30)) = true := noSt_form (pos := pos) h hl
theorem f_bm (o : Ok S c g CX lv X) {b : BI} {n : Str} {e a : Expr} {es : List Expr} {ce : CE} {ca : CA} {apos cpos : Pos} (hf : bmFit b n = true) (hb : isSup e = false) (hs : noSt (a :: es) = true) (hl : (a :: es).length < 30) (hline : (apos.endLine == cpos.line) = true) (he : PE X e (tE c W (evE g ce))) (ha : PA X (a :: es) (tA c W (evA g ca))) :
    PE X (.Call (.Attribute e n apos) (a :: es) [] cpos) (tE c W (evE g (.bm b ce ca))) := by
  have key : BMs c X b n := by
    unfold bmFit at hf
    split at hf
    · rw [eq_of_beq hf]; exact bm_count o.k
    · rw [eq_of_beq hf]; exact bm_index o.k
    · rw [eq_of_beq hf]; exact bm_get o.k (by have := o.units; omega)
    · cases hf
  obtain ⟨s1, s2⟩ := noSt_cons hs
  exact (pe_bmF he ha (base_plain hb) (f_few hs hl) hline (star_cons s1) (noSt_any s2)).imp fun _ _ _ h => t_bm o.k key h
theorem f_pop (o : Ok S c g CX lv X) {i : Nat} {x : Str} {e : Expr} {ce : CE} {q apos cpos : Pos} (h1 : (S.N[i]? == some x) = true) (h2 : isVis S x = true) (h3 : okNm x = true) (hs : isSt e = false) (hline : (apos.endLine == cpos.line) = true) (he : PE X e (tE c W (evE g ce))) :
    PE X (.Call (.Attribute (.Name x q) "pop" apos) [e] [] cpos) (tE c W (evE g (.pop i ce))) := by
  have hb := pe_bm (X := X) (cpos := cpos) (apos := apos) PySem.F.plainAttrs_list PySem.F.slot_list_pop PySem.F.type_list_pop mt_popAt (fv (q := q) o h1 h2 h3) (pa_cons he pa_nil (star_cons hs)) (base_plain rfl) (by rw [star_cons hs]; rfl) hline (star_cons hs) rfl
  refine hb.imp fun _ _ _ h => ?_
  rw [o.k]
  exact t_pop h
theorem f_cmeth (o : Ok S c g CX lv X) {x m : Str} {i j : Nat} {e : Expr} {es : List Expr} {ca : CA} {q apos pos : Pos} (h0 : S.clOf.lookup x = some i) (h1 : S.cmeths.lookup (i, m) = some j) (h2 : isGl S x = true) (h3 : okNm x = true) (hs : noSt (e :: es) = true) (hl : (e :: es).length < 30) (hline : (apos.endLine == pos.line) = true) (ha : PA X (e :: es) (tA c W (evA g ca))) :
    PE X (.Call (.Attribute (.Name x q) m apos) (e :: es) [] pos) (tE c W (evE g (.cmeth i m j ca))) := by
  obtain ⟨mc, p, f, r, k, F⟩ := o.cmeth i m j h1
  obtain ⟨s1, s2⟩ := noSt_cons hs
  have hn : PE X (.Name x q) (tC (.ref (c.C i))) := pe_glob (o.gl h2) (o.cl x i h0) rfl (okNm_d h3)
  exact ⟨fun pins s σ H Q I h => (ClX.pe_cmeth (E := wx c W σ) hn r k F (o.room.mono (Nat.le_succ _)) (fun _ _ _ _ _ _ _ z => (o.no _ _ _ _ _ _ z).elim) ha (star_cons s1) (noSt_any s2) (ht_plain rfl hs hl hline)).run pins s σ H Q I ⟨rfl, t_cmeth h⟩⟩
theorem fs_subI (o : Ok S c g CX lv X) {P : L2.St → Prop} {i : Nat} {x : Str} {e ie : Expr} {ce ci : CE} {q q2 pos : Pos} (h1 : (S.N[i]? == some x) = true) (h2 : isVis S x = true) (h3 : okNm x = true) (hi : plIx ie = true) (he : PE X e (tE c W (evE g ce))) (hie : PE X ie (tE c W (evE g ci))) :
    PS X (.AugAssign (.Subscript (.Name x q) ie q2) .Sub e pos) (tS c W P (evS g (.subI i ci ce))) :=
  PS.imp' (ps_daug (by have := o.units; omega) (fv o h1 h2 h3) hie he in_sub (by
    intro ov iv new
    cases ie <;> first | rfl | exact (Bool.noConfusion hi))) fun _ _ _ h => s_subI h
end
end Mi

set_option Elab.async false
set_option linter.all false
set_option maxRecDepth 100000
set_option maxHeartbeats 1000000
/-! Mi: a def of the text keeps its promise. -/
namespace Mi
open PySem PySem.Spec L2 PyProof.Rows
/-- the parameters that are lent stay what they are -/
def Pk (md : List Bool) (σ0 : L2.St) : L2.St → Prop := fun σ => σ.length = σ0.length ∧ ∀ i : Nat, md[i]? = some true → σ[i]? = σ0[i]?
theorem mask_rel {c : Cn} {F : Addr → Prop} {H : Hp} : ∀ {md : List Bool} {fr : List Slot} {σ σ0 : L2.St} {A : List Addr}, SRel c F H fr σ A → σ0.length = md.length → md.length ≤ fr.length → (∀ i : Nat, md[i]? = some true → σ[i]? = σ0[i]?) →
    ∃ A', SRel c F H (maskS md (fr.take md.length)) σ0 A' ∧ A'.Sublist A
  | [], fr, σ, σ0, A, r, h, _, _ => by
    cases σ0 with
    | nil => exact ⟨[], .nil, List.nil_sublist _⟩
    | cons _ _ => cases h
  | m :: md, [], σ, σ0, A, r, h, hl, _ => by cases hl
  | m :: md, x :: fr, σ, σ0, A, r, h, hl, hP => by
    cases σ0 with
    | nil => cases h
    | cons z σ0 =>
      have h2 : σ0.length = md.length := by simpa using h
      have hl2 : md.length ≤ fr.length := by simpa using hl
      have tl : ∀ {y : Option V} {σ1 : L2.St}, σ = y :: σ1 → ∀ i : Nat, md[i]? = some true → σ1[i]? = σ0[i]? := fun e i q => by
        have := hP (i + 1) q
        rw [e] at this
        exact this
      cases m with
      | false =>
        have e : maskS (false :: md) ((x :: fr).take (false :: md).length) = .emp :: maskS md (fr.take md.length) := rfl
        rw [e]
        cases r with
        | emp r =>
          obtain ⟨A', s, b⟩ := mask_rel (md := md) r h2 hl2 (tl rfl)
          exact ⟨A', .emp s, b⟩
        | fz _ r =>
          obtain ⟨A', s, b⟩ := mask_rel (md := md) r h2 hl2 (tl rfl)
          exact ⟨A', .emp s, b⟩
        | ow _ r =>
          obtain ⟨A', s, b⟩ := mask_rel (md := md) r h2 hl2 (tl rfl)
          exact ⟨A', .emp s, (b.trans (List.sublist_append_right _ _)).cons _⟩
      | true =>
        have e : maskS (true :: md) ((x :: fr).take (true :: md).length) = x :: maskS md (fr.take md.length) := rfl
        rw [e]
        have hd : ∀ {y : Option V} {σ1 : L2.St}, σ = y :: σ1 → z = y := fun e => by
          have := hP 0 rfl
          rw [e] at this
          exact (Option.some.inj this).symm
        cases r with
        | emp r =>
          obtain ⟨A', s, b⟩ := mask_rel (md := md) r h2 hl2 (tl rfl)
          exact ⟨A', .emp s, b⟩
        | fz q r =>
          obtain ⟨A', s, b⟩ := mask_rel (md := md) r h2 hl2 (tl rfl)
          rw [hd rfl]
          exact ⟨A', .fz q s, b⟩
        | @ow d sub a bs _ _ A1 q r =>
          obtain ⟨A', s, b⟩ := mask_rel (md := md) r h2 hl2 (tl rfl)
          rw [hd rfl]
          exact ⟨a :: (bs ++ A'), .ow q s, ((List.Sublist.refl bs).append b).cons₂ _⟩
theorem mask_take : ∀ (md : List Bool) (fr : List Slot) (n : Nat), md.length ≤ n → (maskS md (fr.take n)).take md.length = maskS md (fr.take md.length)
  | [], fr, n, _ => by simp [maskS]
  | m :: md, [], n, _ => by cases m <;> simp [maskS]
  | m :: md, x :: fr, 0, h => by cases h
  | m :: md, x :: fr, n + 1, h => by
    have q := mask_take md fr n (by simpa using h)
    cases m
    · show Slot.emp :: (maskS md (fr.take n)).take md.length = Slot.emp :: maskS md (fr.take md.length)
      rw [q]
    · show x :: (maskS md (fr.take n)).take md.length = x :: maskS md (fr.take md.length)
      rw [q]
/-- the body's reading, from the promise -/
theorem fin_of {c : Cn} {g' : G} {f : CF} {w w0 : Wd} {vs1 : List V} {σ0 : L2.St} {args : List Slot} {Q : VK} {E : XK} (x0 : Ext w0 w) (hm : vs1.length = f.md.length) (hσ : σ0.take f.md.length = vs1.map some) (hla : f.md.length ≤ args.length) (S : SR c w (args ++ List.replicate (f.ns - args.length) .emp) σ0)
    (h : SpR c w0 (vs1.map some) Q E ((runF g' f args).nox)) : tS c WF (Pk f.md σ0) (evB g' f.body) { nx := fun _ H' => Q .non H', rt := Q } σ0 w.H := by
  refine ⟨⟨rfl, fun _ _ => rfl⟩, w, { fr := args ++ List.replicate (f.ns - args.length) .emp, out := [] }, rfl, S, ?_⟩
  unfold runF at h
  unfold GoS
  generalize evB g' f.body { fr := args ++ List.replicate (f.ns - args.length) .emp, out := [] } = r at h
  have key : ∀ {r : R} {fr : List Slot} {tr : List Mi.D} {w' : Wd} {σ' : L2.St} {v : V}, SpR c w0 (vs1.map some) Q E (.ok r (maskS f.md (fr.take args.length)) tr) → (∀ i, r ≠ .bo i) → Ext w w' → Pk f.md σ0 σ' → SR c w' fr σ' → RR c w w' σ' r v → Q v w'.H := by
    intro r fr tr w' σ' v h nb x p S' rr
    have hlf : f.md.length ≤ fr.length := by
      have e1 := S'.rel.length
      have e2 := S.rel.length
      rw [List.length_append] at e2
      rw [e1, p.1, ← e2]
      exact Nat.le_trans hla (Nat.le_add_right _ _)
    obtain ⟨A', s, b⟩ := mask_rel (σ0 := vs1.map some) S'.rel (by rw [List.length_map]; exact hm) hlf fun i q => by
      rw [p.2 i q, ← hσ, List.getElem?_take_of_lt]
      have := (List.getElem?_eq_some_iff.mp q).1
      exact this
    refine h ⟨w'.F, w'.H, A'⟩ v (x0.trans ⟨x.f, x.h, x.g, fun b m => x.a b (‹A'.Sublist _›.subset m), x.d⟩) ?_ ?_
    · rw [List.length_map, hm, mask_take _ _ _ hla]
      exact ⟨s, b.nodup S'.nd, fun a m => S'.nf a (b.subset m), S'.fd⟩
    · cases r with
      | fz d => exact rr
      | ow d sub =>
        obtain ⟨a, bs, e, o, nd, q⟩ := rr
        refine ⟨a, bs, e, o, nd, fun z m => ⟨(q z m).1, fun y => (q z m).2.1 (b.subset y), ?_⟩⟩
        rcases (q z m).2.2 with y | y
        · exact x0.a z y
        · exact .inr (Classical.byContradiction fun n => x0.d z n y)
      | bo i => exact (nb i rfl).elim
  cases r with
  | bad => exact h
  | exc k vs s => exact (show False from h).elim
  | ok fl s =>
    intro w' σ' x p S'
    cases fl with
    | nx => exact key (r := .fz .non) (v := .non) h (fun i z => (by cases z)) x p S' .non
    | brk => exact h.elim
    | cnt => exact h.elim
    | ret r =>
      intro v rr
      cases r with
      | bo i => exact h.elim
      | fz d => exact key h (fun i z => (by cases z)) x p S' rr
      | ow d sub => exact key h (fun i z => (by cases z)) x p S' rr
end Mi

set_option Elab.async false
set_option linter.all false
set_option maxRecDepth 100000
set_option maxHeartbeats 1000000
/-! Mi: a def of the text keeps its promise: the two rules. -/
namespace Mi
open PySem PySem.Spec L2 PyProof.Rows StX
section
variable {c : Cn} {g g' : G} {j : Nat} {P : Program} {w : World} {K : PySem.W.Frag} {mg : Str → Option Value} {base : Heap} {kk : Nat} {f : Addr} {fd : FuncData} {name qual : Str} {params : Arguments} {body : List Stmt} {scope : Scope} {N ps : List Str} {F : CF}
theorem sr_start {wd : Wd} {sl : List Slot} {vs : List V} {ns : Nat} (S : SR c wd sl (vs.map some)) (hn : ns = N.length) : SR c wd (sl ++ List.replicate (ns - sl.length) .emp) (start N vs) := by
  have hsl : sl.length = vs.length := by
    have := S.rel.length
    rw [List.length_map] at this
    exact this
  have q := start_rel (N := N) (vs := vs) S.rel (ns - sl.length)
  unfold L2.start
  rw [hn] at q ⊢
  rw [hsl] at q ⊢
  exact ⟨q, S.nd, S.nf, S.fd⟩
theorem start_take {vs1 : List V} {r : List V} {n : Nat} (h : vs1.length = n) : (start N (vs1 ++ r)).take n = vs1.map some := by
  unfold L2.start
  rw [List.map_append, List.append_assoc]
  subst h
  have e : vs1.length = (vs1.map some).length := by rw [List.length_map]
  rw [e, List.take_left]
/-- def f(a, ..) -/
theorem fn_miO (T : FunD K name qual params body scope [] [] f fd) (S : FnScope N ps scope) (hps : ps.length = F.md.length) (hg : g.md j = F.md) (hva : g.va j = false) (hns : F.ns = N.length)
    (hcall : ∀ args, g.call j args = (runF g' F args).nox)
    (hbody : ∀ (cdv : Value) (A : Around) (outer : List Env) (s : Shared) (H : Hp) (vs : List V) (E : XK), Room kk (A.deeper (envOfC qual scope s.heap.objs.size f cdv)) →
      PSs (cxOf CX0 P w K mg base N qual scope f cdv A outer s H E).nox body (tS c WF (Pk F.md (start N vs)) (evB g' F.body))) : FnOk P w K mg base CX0 (kk + 1) f fd ps (spOf c g j) :=
  FunD.ok (P := P) (w := w) (mg := mg) (base := base) (CX := CX0) (k := kk) (sp := spOf c g j) T S (fun vs H Q E ⟨wd, vs1, vs2, sl, ds, h1, h2, h3, h4, h5, h6, h7, h8⟩ => by
    rw [h2, h5 hva, List.append_nil, h3, hps, hg]) (fun cdv A outer s H vs Q E hr ⟨wd, vs1, vs2, sl, ds, h1, h2, h3, h4, h5, h6, h7, h8⟩ => by
    refine ⟨_, PSs.nox (hbody cdv A outer s H vs E hr), ?_⟩
    have e2 := h5 hva
    subst e2
    rw [List.append_nil] at h2
    subst h2
    rw [hva] at h8
    have h8 : SpR c wd (vs.map some) Q E (g.call j (sl ++ [])) := h8
    rw [List.append_nil, hcall] at h8
    have hl : sl.length = vs.length := by
      have := h6.rel.length
      rw [List.length_map] at this
      exact this
    rw [hg] at h3
    have z := fin_of (f := F) (σ0 := start N vs) (Ext.refl wd) h3 (by have := start_take (N := N) (r := []) h3; rwa [List.append_nil] at this) (by rw [hl, h3]; exact Nat.le_refl _) (sr_start h6 hns) h8
    rw [← h1]
    exact z)
theorem fn_mi (T : FunD K name qual params body scope [] [] f fd) (S : FnScope N ps scope) (hb : Binds K fd ps []) (hps : ps.length = F.md.length) (hg : g.md j = F.md) (hva : g.va j = false) (hns : F.ns = N.length)
    (hcall : ∀ args, g.call j args = (runF g' F args).nox)
    (hbody : ∀ (cdv : Value) (A : Around) (outer : List Env) (s : Shared) (H : Hp) (vs : List V) (E : XK), Room kk (A.deeper (envOfC qual scope s.heap.objs.size f cdv)) →
      PSs (cxOf CX0 P w K mg base N qual scope f cdv A outer s H E).nox body (tS c WF (Pk F.md (start N vs)) (evB g' F.body))) : FnR P w K mg base CX0 (kk + 1) f (spOf c g j) :=
  ((fn_miO T S hps hg hva hns hcall hbody).raw hb .nil).imp fun vs H Q E h => by
    rw [List.append_nil]
    exact h
/-- def f(a, .., *v) -/
theorem fn_miS {pv : Str} (T : FunD K name qual params body scope [] [] f fd) (S : FnScope N (ps ++ [pv]) scope)
    (hb : ∀ (kV doc pm : Value) (an : Option Addr) (cdv ct : Value) (us rest : List Value), us.length = ps.length → bindArgs (PySem.W.fnOf name qual params body scope .none kV doc pm an cdv ct) ⟨us ++ rest, []⟩ = (newTuple rest >>= fun t => pure (ps.zip us ++ [(pv, t)])))
    (hps : ps.length = F.md.length) (hg : g.md j = F.md) (hva : g.va j = true) (hns : F.ns = N.length)
    (hcall : ∀ args, g.call j args = (runF g' F args).nox)
    (hbody : ∀ (cdv : Value) (A : Around) (outer : List Env) (s : Shared) (H : Hp) (vs : List V) (E : XK), Room kk (A.deeper (envOfC qual scope s.heap.objs.size f cdv)) →
      PSs (cxOf CX0 P w K mg base N qual scope f cdv A outer s H E).nox body (tS c WF (Pk F.md (start N vs)) (evB g' F.body))) : FnR P w K mg base CX0 (kk + 1) f (spOf c g j) := by
  obtain ⟨oc, od, dV, kV, doc, pm, an, cdv, ct, osl, rfl, lk, hcd, hD, _⟩ := T.ex
  have hD : dV = .none := by
    rcases hD with ⟨_, h⟩ | ⟨h, _⟩
    · exact h
    · exact absurd rfl h
  subst hD
  intro A outer s H us vs Q E hr e0 r ⟨wd, vs1, vs2, sl, ds, h1, h2, h3, h4, h5, h6, h7, h8⟩
  subst h1 h2
  rw [hg] at h3
  obtain ⟨u1, u2, eu, r1, r2⟩ := vals_split r
  subst eu
  have hn : wd.H s.heap.objs.size = Option.none := e0.hok.fresh (Nat.le_refl _)
  have hl1 : u1.length = ps.length := by rw [← r1.length, h3, hps]
  have hl2 : u2.length ≤ sizeLine := by rw [← r2.length]; exact h4
  have hob : ∀ p o, wd.H p = none → o.dict = none → SR c ⟨fun b => wd.F b ∨ b = p, upd wd.H p (.frz o (.tup vs2)), wd.A⟩ (sl ++ [.fz (.tup ds)]) ((vs1 ++ [V.ref p]).map some) ∧ Ext wd ⟨fun b => wd.F b ∨ b = p, upd wd.H p (.frz o (.tup vs2)), wd.A⟩ := by
    intro p o hp ho
    have nh : ∀ a x, wd.H a = some x → upd wd.H p (.frz o (.tup vs2)) a = some x := fun a x e => by
      rw [upd_ne (ne_of_none e hp)]
      exact e
    have pA : p ∉ wd.A := fun m => h6.rel.dom p m hp
    refine ⟨⟨?_, h6.nd, fun a m z => ?_, fun a z => ?_⟩, ⟨fun a z => .inl z, fun a x e _ => nh a x e, fun a z => ?_, fun b m => .inl m, fun a z => ?_⟩⟩
    · have q1 := h6.rel.mono (F' := fun b => wd.F b ∨ b = p) (H' := upd wd.H p (.frz o (.tup vs2))) (fun a z => .inl z) (fun a x _ e => nh a x e) fun a x _ e => nh a x e
      have q2 : Rep c (fun b => wd.F b ∨ b = p) (upd wd.H p (.frz o (.tup vs2))) (.tup ds) (.ref p) := .tup (.inr rfl) upd_same ho (h7.mono (fun a z => .inl z) fun a x _ e => nh a x e)
      have app : ∀ {sl : List Slot} {σ : L2.St} {A : List Addr}, SRel c (fun b => wd.F b ∨ b = p) (upd wd.H p (.frz o (.tup vs2))) sl σ A → SRel c (fun b => wd.F b ∨ b = p) (upd wd.H p (.frz o (.tup vs2))) (sl ++ [.fz (.tup ds)]) (σ ++ [some (V.ref p)]) A := by
        intro sl σ A h
        induction h with
        | nil => exact .fz q2 .nil
        | emp _ ih => exact .emp ih
        | fz h _ ih => exact .fz h ih
        | ow h _ ih => exact .ow h ih
      rw [List.map_append]
      exact app q1
    · rcases z with z | z
      · exact h6.nf a m z
      · subst z; exact pA m
    · show upd wd.H p (.frz o (.tup vs2)) a ≠ none
      rcases z with z | z
      · intro e
        by_cases q : a = p
        · subst q; exact h6.fd a z hp
        · rw [upd_ne q] at e; exact h6.fd a z e
      · subst z
        rw [upd_same]
        intro e; cases e
    · rcases z with z | z
      · exact .inl z
      · subst z; exact .inr (.inl hp)
    · show upd wd.H p (.frz o (.tup vs2)) a ≠ none
      intro e
      by_cases q : a = p
      · subst q; rw [upd_same] at e; cases e
      · rw [upd_ne q] at e; exact z e
  refine run_bnd lk hcd S hr e0 (G := fun xs H2 => ∃ p o, wd.H p = Option.none ∧ o.dict = none ∧ xs = vs1 ++ [V.ref p] ∧ H2 = upd wd.H p (.frz o (.tup vs2))) (fun A' Ex Q' h => ?_) fun s2 H2 xs ⟨p, o, hp, ho, ex, eH⟩ hr' => ?_
  · rw [hb _ _ _ _ _ _ u1 u2 hl1]
    refine wpAny_bind (wpAny_newTuple (wpAny_pure ?_) hl2)
    have new : ObjOk P w (upd wd.H s.heap.objs.size (.frz ({ cls := .type "tuple", data := .seq u2.toArray } : Obj) (.tup vs2))) (s.heap.push ({ cls := .type "tuple", data := .seq u2.toArray } : Obj)) s.heap.objs.size (.frz ({ cls := .type "tuple", data := .seq u2.toArray } : Obj) (.tup vs2)) :=
      ⟨Heap.get?_push_size _ rfl, h4, u2, r2, ⟨_, Heap.get?_push_size _ rfl, rfl, _, rfl⟩⟩
    have un := un_laid (fs := frs outer) (s := s) (o := ({ cls := .type "tuple", data := .seq u2.toArray } : Obj)) (u := .frz ({ cls := .type "tuple", data := .seq u2.toArray } : Obj) (.tup vs2)) hn
    have z := h _ _ (vs1 ++ [V.ref s.heap.objs.size]) (u1 ++ [Value.ref s.heap.objs.size]) (env0_laid e0 new) un rfl (fun e s' z => z) (r1.append (.cons rfl .nil))
      (by rw [List.length_append, List.length_append, h3, hps] <;> rfl) ⟨_, _, hn, rfl, rfl, rfl⟩
    rw [List.zip_append hl1.symm] at z
    exact z
  · subst ex eH
    refine ⟨_, PSs.nox (hbody cdv A outer s2 _ (vs1 ++ [V.ref p]) E hr'), ?_⟩
    obtain ⟨S2, x2⟩ := hob p o hp ho
    rw [hva] at h8
    have h8 : SpR c wd (vs1.map some) Q E (g.call j (sl ++ [.fz (.tup ds)])) := h8
    rw [hcall] at h8
    have hl : sl.length = vs1.length := by
      have := h6.rel.length
      rw [List.length_map] at this
      exact this
    exact fin_of (f := F) (σ0 := start N (vs1 ++ [V.ref p])) x2 h3 (start_take h3) (by rw [List.length_append, hl, h3]; exact Nat.le_add_right _ _) (sr_start S2 hns) h8
end
end Mi

set_option Elab.async false
set_option linter.all false
set_option maxRecDepth 100000
set_option maxHeartbeats 1000000
/-! Mi: list(d.values()). -/
namespace L2
open PySem PySem.Spec PyProof.Rows
def rValsF : V → Hp → VK → Prop := fun x H Q => ∃ (d : Addr) (kvs : List (Key × V)), x = .ref d ∧ H d = some (.dK kvs) ∧ ∀ p, H p = none → Q (.ref p) (upd H p (.lst (kvs.map fun q => q.2)))
section
variable {X : Cx} {e : Expr} {te : TE} {p apos cpos pos : Pos}
theorem vals_ofKV {kvs : List (Key × V)} {vs : List (Key × Value)} (r : KV kvs vs) : Vals (kvs.map fun q => q.2) (vs.map fun q => q.2) := by
  unfold KV at r
  induction r with
  | nil => exact .nil
  | cons h _ ih => exact .cons h.2 ih
theorem pe_valsF (hc : X.calm = true) (he : PE X e te) (hg : Gl X "list") (hm : X.mg "list" = none) (hv : bootBuiltins "list" = some (.type "list")) (hbase : attributeBase e "values" X.env (eval e X.env) = eval e X.env) (hline : (apos.endLine == cpos.line) = true) :
    PE X (.Call (.Name "list" p) [.Call (.Attribute e "values" apos) [] [] cpos] [] pos) (tUn rValsF te) := by
  have hs : starEach [.Call (.Attribute e "values" apos) [] [] cpos] X.env = (false, eval (.Call (.Attribute e "values" apos) [] [] cpos) X.env) :: starEach [] X.env := rfl
  refine ⟨fun pins s σ H Q I hq => wpAny_Call_Name_kw (ld_blt I hg hm hv (PyProof.Rows.callWith_type1 ?_ hs rfl))⟩
  rw [hs]
  show wpAny _ _ (spliced ((false, eval (.Call (.Attribute e "values" apos) [] [] cpos) X.env) :: backTo pos (starEach [] X.env))) _ _ s
  refine Calls.spliced_cons ?_
  refine wpAny_Call_method (T := "dict") (id := "dict.values") hbase rfl hline F.plainAttrs_dict F.slot_dict_values F.type_dict_values ?_
  refine thn (he.run pins s σ H _ I hq) fun u s1 ⟨x, H1, I1, rx, d, kvs, ex, hd, q⟩ => ?_
  subst ex
  cases rx
  obtain ⟨hz, hs0, vs, kv, hdo⟩ := I1.hok d _ hd
  obtain ⟨ep, hat⟩ := hdo.dictAt
  have lk : kvs.length = vs.length := Paired.length kv
  have I2 : Inv X pins σ H1 { s1 with heap := s1.heap.push { cls := .type "dict_values", data := .fields #[.ref d] } } := I1.kept (t' := s1.toks) fun b ob q => Heap.get?_push_of_some _ q
  have K2 : PySem.W.KdlSrc X.prog X.w "dict_values" s1.heap.objs.size d vs.length (fun i v => ∃ k, vs[i]? = some (k, v)) (fun h => h.IsValuesView s1.heap.objs.size d ∧ h.DictAt (mixKind X.prog X.w) d vs ep) := PySem.W.kdl_values
  refine ⟨hdo.typeIs, hdo.mapOf.noDict, ?_⟩
  show wpAny _ _ (callWith cpos (.builtin "dict.values") [.ref d] [] []) _ X.xe s1
  refine method_meetsIn F.slot_dict_values F.entry_dict_values rfl (PySem.evalArgs_none ⟨rfl, hdo.typeIs, F.args_dict_values_1 _, _, meets_dict_values (mixKind X.prog X.w) d hs0, ⟨vs, hdo⟩, Calls.spliced_nil ?_⟩)
  refine PySem.W.kdl_call K2 (I1.ok.hd hc) ⟨⟨_, Heap.get?_push_size _ rfl, rfl, rfl⟩, hat.push _⟩ (by rw [← lk]; exact hz) fun h' tk acc' c' hkeep hS hacc => ?_
  have el : acc'.toList = vs.map fun q => q.2 := PySem.W.kdl_vals_eq acc'.toList (by rw [Array.length_toList]; exact hacc.1) fun j v e => hacc.2 j v (by rw [← Array.getElem?_toList]; exact e)
  refine ⟨.ref _, upd H1 _ (.lst (kvs.map fun q => q.2)), I2.laid hkeep (Nat.le_refl _) (show ObjOk X.prog X.w _ _ _ (.lst (kvs.map fun q => q.2)) from ⟨?_, acc'.toList, c', ?_, ?_⟩), rfl, q _ (I2.hok.fresh (Nat.le_refl _))⟩
  · rw [List.length_map]; exact hz
  · rw [el]; exact vals_ofKV kv
  · rw [Array.toArray_toList]; exact hS
end
end L2
namespace Mi
open PySem L2 PyProof.Rows
section
variable {S : Fs} {c : Cn} {g : G} {CX : CXT} {lv : Nat} {X : Cx} {W : XW} {σ : L2.St} {H : Hp}
theorem RepK.valsR {F : Addr → Prop} : ∀ {ds : List (Key × Mi.D)} {kvs : List (Key × V)}, RepK c F H ds kvs → Reps c F H (ds.map fun p => p.2) (kvs.map fun p => p.2)
  | _, _, .nil => .nil
  | _, _, .cons h r => .cons h (RepK.valsR r)
theorem b_vals : B1 c .listVals rValsF := by
  intro w s σ d v Q S h p
  cases d with
  | dic kvs =>
    obtain ⟨a, vs, rfl, ha, r⟩ := h.dic
    have p : PB c w Q (.ow (.lst (kvs.map fun p => p.2))) := p
    exact ⟨a, vs, rfl, ha, PB.newL S p (RepK.valsR r)⟩
  | _ => exact p.elim
theorem f_vals (o : Ok S c g CX lv X) {e : Expr} {ce : CE} {p apos cpos pos : Pos} (h2 : isGl S "list" = true) (hb : isSup e = false) (hline : (apos.endLine == cpos.line) = true) (he : PE X e (tE c W (evE g ce))) :
    PE X (.Call (.Name "list" p) [.Call (.Attribute e "values" apos) [] [] cpos] [] pos) (tE c W (evE g (.bi .listVals (.cons ce .nil)))) :=
  (pe_valsF o.calm he (o.gl h2) (o.bl _ (by decide)) boot_list (base_plain hb) hline).imp fun _ _ _ h => bi1 b_vals h
end
end Mi

set_option Elab.async false
set_option linter.all false
set_option maxRecDepth 100000
set_option maxHeartbeats 400000
/-! Mi: comprehensions, two at once, try, star arguments. -/
namespace Mi
open PySem PySem.Spec L2 PyProof.Rows
section
variable {S : Fs} {c : Cn} {g : G} {CX : CXT} {lv : Nat} {X : Cx} {W : XW} {P : L2.St → Prop} {σ : L2.St} {H : Hp}
variable {elt kx vx tg it : Expr} {ifs : List Expr} {scope : Scope} {own : List (Str × Nat)} {pos spos py : Pos} {src : CI} {t : Tg} {ct : CT} {ce ck cv : CE} {pr : Bool} {i : Nat} {w : Bool} {y : Str}
theorem blk_ok (o : Ok S c g CX lv X) (h : blkC S.N S.sc scope own = true) : BlkOk X.N X.env.scope scope own := by
  rw [o.n, o.sc]
  exact blkOk_by h
theorem own_in (h : ((tgIx t).all fun i => decide (i ∈ own.map (·.2))) = true) : ∀ i ∈ tgIx t, i ∈ own.map (·.2) := fun i m => by
  have := List.all_eq_true.mp h i m
  simpa using this
theorem fp_nil : PTs X [] (tT c W (evT g .tt)) := ⟨fun pins s σ H Q I h => pts_nil.run pins s σ H Q I (tt_tt h)⟩
theorem fp_one {e : Expr} (h : PT X e (tT c W (evT g ct))) : PTs X [e] (tT c W (evT g ct)) := pts_one h
theorem f_lc (o : Ok S c g CX lv X) (hp : pr = true → pairTg t = true) (ht : ((tgIx t).all fun i => decide (i ∈ own.map (·.2))) = true) (hb : blkC S.N S.sc scope own = true) (hs : isSet it = false) (hi : PI X tg it (tI (c := c) (W := W) (evI g src) pr))
    (hg : ∀ X', Ok (S.blk scope) c g CX lv X' → PG X' tg (gT c.K t)) (hf : ∀ X', Ok (S.blk scope) c g CX lv X' → PTs X' ifs (tT c WF (evT g ct))) (he : ∀ X', Ok (S.blk scope) c g CX lv X' → PE X' elt (tE c WF (evE g ce))) :
    PE X (.ListComp elt [⟨tg, it, ifs, 0⟩] scope pos) (tE c W (evE g (.lc src t ct ce (own.map (·.2))))) :=
  (pe_lc o.calm o.nd hi (blk_ok o hb) (fun s H C cl fp => hg _ (o.blk s H scope C cl fp)) (fun s H C cl fp => hf _ (o.blk s H scope C cl fp)) (fun s H C cl fp => he _ (o.blk s H scope C cl fp)) (folded_plain hs)).imp fun _ _ _ h => t_lc hp (own_in ht) h
theorem f_dc (o : Ok S c g CX lv X) (hp : pr = true → pairTg t = true) (ht : ((tgIx t).all fun i => decide (i ∈ own.map (·.2))) = true) (hb : blkC S.N S.sc scope own = true) (hs : isSet it = false) (hi : PI X tg it (tI (c := c) (W := W) (evI g src) pr))
    (hg : ∀ X', Ok (S.blk scope) c g CX lv X' → PG X' tg (gT c.K t)) (hk : ∀ X', Ok (S.blk scope) c g CX lv X' → PE X' kx (tE c WF (evE g ck))) (hv : ∀ X', Ok (S.blk scope) c g CX lv X' → PE X' vx (tE c WF (evE g cv))) :
    PE X (.DictComp kx vx [⟨tg, it, [], 0⟩] scope pos) (tE c W (evE g (.dc src t ck cv (own.map (·.2))))) :=
  (pe_dc o.calm o.nd hi (blk_ok o hb) (fun s H C cl fp => hg _ (o.blk s H scope C cl fp)) (fun _ _ _ _ _ => pts_nil) (fun s H C cl fp => hk _ (o.blk s H scope C cl fp)) (fun s H C cl fp => hv _ (o.blk s H scope C cl fp)) (folded_plain hs)).imp fun _ _ _ h => t_dc hp (own_in ht) h
/-- {k: v for t in f(..)}, f a generator def -/
theorem f_dcG (o : Ok S c g CX (lv + 1) X) {x : Str} {j : Nat} {es : List Expr} {ca : CA} {p p2 : Pos} (ht : ((tgIx t).all fun i => decide (i ∈ own.map (·.2))) = true) (hb : blkC S.N S.sc scope own = true) (hnc : (scope.names.all fun y => match y.2 with | .cell => false | _ => true) = true)
    (h1 : S.gnOf.lookup x = some j) (h2 : isGl S x = true) (h3 : okNm x = true) (ha : PArg X es (tA c WF (evA g ca)))
    (hg : ∀ X', Ok (S.blk scope) c g CX (lv + 1) X' → PG X' tg (gT c.K t)) (hk : ∀ X', Ok (S.blk scope) c g CX (lv + 1) X' → PE X' kx (tE c WF (evE g ck))) (hv : ∀ X', Ok (S.blk scope) c g CX (lv + 1) X' → PE X' vx (tE c WF (evE g cv))) :
    PE X (.DictComp kx vx [⟨tg, .Call (.Name x p) es [] p2, [], 0⟩] scope pos) (tE c WF (evE g (.dc (.gen j ca) t ck cv (own.map (·.2))))) := by
  obtain ⟨f, q1, q2, F, q3⟩ := o.gn x j h1
  exact (pe_dcG (kk := lv + 1) o.calm o.nd o.room (pgn_call F (o.room.mono (Nat.le_succ _)) q3 (o.gl h2) q1 q2 ha (okNm_d h3)) (blk_ok o hb) (fun y m e => by
      have := List.all_eq_true.mp hnc y m
      rw [e] at this
      cases this)
    (fun s H C cl fp => hg _ (o.blk s H scope C cl fp)) (fun s H C cl fp => hk _ (o.blk s H scope C cl fp)) (fun s H C cl fp => hv _ (o.blk s H scope C cl fp)) (folded_plain rfl)).imp fun _ _ _ h => t_dcG (own_in ht) h
def clearOf (scope : Scope) (y : Str) : Bool := !(scope.names.any fun (n, k) => n == y && (k == .local || k == .cell))
theorem clear_ok (h : clearOf scope y = true) : (scope.names.any fun (n, k) => n == y && (k == .local || k == .cell)) = false := by
  unfold clearOf at h
  cases q : (scope.names.any fun (n, k) => n == y && (k == .local || k == .cell))
  · rfl
  · rw [q] at h; cases h
def isFn (S : Fs) : Bool := match S.sc.kind with
  | .function => true
  | _ => false
theorem Ok.fnk (o : Ok S c g CX lv X) (h : isFn S = true) : X.env.scope.kind = .function := by
  rw [o.sc]
  unfold isFn at h
  split at h
  · assumption
  · cases h
theorem fs_setLc (o : Ok S c g CX lv X) (hP : ∀ σ v, P σ → P (σ.set i (some v))) (h1 : (S.N[i]? == some y) = true) (h2 : isLc S y = true) (hk : isFn S = true) (hline : (py.line == pos.line) = true) (hcl : clearOf scope y = true)
    (hp : pr = true → pairTg t = true) (ht : ((tgIx t).all fun i => decide (i ∈ own.map (·.2))) = true) (hb : blkC S.N S.sc scope own = true) (hs : isSet it = false) (hi : PI X tg it (tI (c := c) (W := W) (evI g src) pr))
    (hg : ∀ X', Ok (S.blk scope) c g CX lv X' → PG X' tg (gT c.K t)) (hf : ∀ X', Ok (S.blk scope) c g CX lv X' → PTs X' ifs (tT c WF (evT g ct))) (he : ∀ X', Ok (S.blk scope) c g CX lv X' → PE X' elt (tE c WF (evE g ce))) :
    PS X (.Assign [.Name y py] (.ListComp elt [⟨tg, it, ifs, 0⟩] scope pos) spos) (tS c W P (evS g (.asg i w (.lc src t ct ce (own.map (·.2)))))) :=
  PS.imp' (ps_setLc o.calm o.nd (o.ix h1) (o.lcl h2) (sw_true (o.fnk hk) (o.lcl h2) hline (clear_ok hcl)) hi (blk_ok o hb) (fun s H C cl fp => hg _ (o.blk s H scope C cl fp)) (fun s H C cl fp => hf _ (o.blk s H scope C cl fp)) (fun s H C cl fp => he _ (o.blk s H scope C cl fp)) (folded_plain hs))
    fun _ _ _ h => t_lc hp (own_in ht) (s_asg (fun v p => hP _ v p) h)
end
end Mi

set_option Elab.async false
set_option linter.all false
set_option maxRecDepth 100000
set_option maxHeartbeats 1000000
namespace L2
open PySem PySem.Spec PyProof.Rows
section
variable {X : Cx}
/-- y = {k: v for ..}, on one line -/
theorem ps_oneDc {i : Nat} {y : Str} {py : Pos} {kx vx tg iter : Expr} {ifs : List Expr} {scope : Scope} {own : List (Str × Nat)} {pos spos : Pos} {wi : TI} {g : TG} {tt : TT} {tk tv : TE} (hc : X.calm = true) (hN : X.N.Nodup)
    (hy : X.N[i]? = some y) (hyl : X.env.scope.names.lookup y = some .local) (hsw : swapsWith (.DictComp kx vx [⟨tg, iter, ifs, 0⟩] scope pos) (some (.Name y py)) spos.line X.env = pure true)
    (hi : PI X tg iter wi) (ok : BlkOk X.N X.env.scope scope own)
    (hg : ∀ (s : Shared) (H : Hp) (C : Addr) (cl : List (Str × Addr)) (fp : List Addr), PG (X.blk s H scope (compEnvC scope cl C X.env) fp) tg g)
    (ht : ∀ (s : Shared) (H : Hp) (C : Addr) (cl : List (Str × Addr)) (fp : List Addr), PTs (X.blk s H scope (compEnvC scope cl C X.env) fp) ifs tt)
    (hk : ∀ (s : Shared) (H : Hp) (C : Addr) (cl : List (Str × Addr)) (fp : List Addr), PE (X.blk s H scope (compEnvC scope cl C X.env) fp) kx tk)
    (he : ∀ (s : Shared) (H : Hp) (C : Addr) (cl : List (Str × Addr)) (fp : List Addr), PE (X.blk s H scope (compEnvC scope cl C X.env) fp) vx tv) (hs : ∀ x, foldedSetIterable iter X.env x = pure x) :
    PS X (.Assign [.Name y py] (.DictComp kx vx [⟨tg, iter, ifs, 0⟩] scope pos) spos) (tAsg (tDc wi g tt tk tv (own.map (·.2))) (gName i)) := by
  refine ⟨fun pins s σ H D I h => ?_⟩
  rw [exec_Assign_Name_used _ _ _ _ hsw]
  refine wpAny_bind (wpAny_standAt (wpAny_bind ?_))
  show wpAny _ X.A (comprehension (.DictComp kx vx [⟨tg, iter, ifs, 0⟩] scope pos) scope X.env (firstIterPos [⟨tg, iter, ifs, 0⟩] pos) newDict false (eval iter X.env) (some (assign (.Name y py) X.env)) >>= fun _ => pure ()) _ _ s
  have h : tDc wi g tt tk tv (own.map (·.2)) σ H (fun x H1 => gName i x σ H1 D.nx) := h
  refine wpAny_bind (thn (dc_core (Qf := fun _ s' => SP X pins D .next s') hc hN I hi ok hg ht hk he hs h fun L C s' m H' J q hn f => ?_) fun _ s' hq => wpAny_pure (wpAny_pure hq))
  obtain ⟨z0, z1, z2, z3, z4, z5⟩ := f
  show wpAny _ _ (assign (.Name y py) X.env (.ref L)) _ _ _
  refine wpAny_assign_Name (store_ok2 (v := V.ref L) J hN hy (.inl hyl) rfl (fun s2 J2 ⟨a, sb, ha⟩ => ?_) (.inr hyl))
  have na : C ≠ a := ha.elim (fun z => z ▸ z1) fun z e => z4 y a z e.symm
  exact ⟨m, hn.sameBut sb na, fun h3 sb3 => ⟨_, H', J2.turned (t' := s2.toks) (fun b o hb e => (sb3.2 b hb).trans e) z0 z1 z3 z4 z5, q⟩⟩
theorem sw_dict {kx vx : Expr} {gs : List Comprehension} {scope : Scope} {pos py : Pos} {y : Str} {l : Nat} {env : Env} (hk : env.scope.kind = .function) (hy : env.scope.names.lookup y = some .local) (hl : (py.line == pos.line) = true)
    (ha : (scope.names.any fun (n, k) => n == y && (k == .local || k == .cell)) = false) : swapsWith (.DictComp kx vx gs scope pos) (some (.Name y py)) l env = pure true :=
  sw_true (elt := kx) (gs := gs) (pos := pos) (l := l) hk hy hl ha
end
end L2
/-! Mi: .. -/
namespace Mi
open PySem PySem.Spec L2 PyProof.Rows
section
variable {S : Fs} {c : Cn} {g : G} {CX : CXT} {lv : Nat} {X : Cx} {W : XW} {P : L2.St → Prop} {σ : L2.St} {H : Hp}
variable {elt kx vx tg it : Expr} {ifs : List Expr} {scope : Scope} {own : List (Str × Nat)} {pos spos py : Pos} {src : CI} {t : Tg} {ct : CT} {ce ck cv : CE} {pr : Bool} {i : Nat} {w : Bool} {y : Str}
theorem fs_setDc (o : Ok S c g CX lv X) (hP : ∀ σ v, P σ → P (σ.set i (some v))) (h1 : (S.N[i]? == some y) = true) (h2 : isLc S y = true) (hk : isFn S = true) (hline : (py.line == pos.line) = true) (hcl : clearOf scope y = true)
    (hp : pr = true → pairTg t = true) (ht : ((tgIx t).all fun i => decide (i ∈ own.map (·.2))) = true) (hb : blkC S.N S.sc scope own = true) (hs : isSet it = false) (hi : PI X tg it (tI (c := c) (W := W) (evI g src) pr))
    (hg : ∀ X', Ok (S.blk scope) c g CX lv X' → PG X' tg (gT c.K t)) (hkx : ∀ X', Ok (S.blk scope) c g CX lv X' → PE X' kx (tE c WF (evE g ck))) (hv : ∀ X', Ok (S.blk scope) c g CX lv X' → PE X' vx (tE c WF (evE g cv))) :
    PS X (.Assign [.Name y py] (.DictComp kx vx [⟨tg, it, [], 0⟩] scope pos) spos) (tS c W P (evS g (.asg i w (.dc src t ck cv (own.map (·.2)))))) :=
  PS.imp' (ps_oneDc o.calm o.nd (o.ix h1) (o.lcl h2) (sw_dict (o.fnk hk) (o.lcl h2) hline (clear_ok hcl)) hi (blk_ok o hb) (fun s H C cl fp => hg _ (o.blk s H scope C cl fp)) (fun _ _ _ _ _ => pts_nil)
    (fun s H C cl fp => hkx _ (o.blk s H scope C cl fp)) (fun s H C cl fp => hv _ (o.blk s H scope C cl fp)) (folded_plain hs)) fun _ _ _ h => t_dc hp (own_in ht) (s_asg (fun v p => hP _ v p) h)
def swapC (a b : Expr) : Bool := !([a, b].all (foldedForSure 8)) && !([a, b].all (constantsAlone 8))
theorem swapped_two {x y : Str} {a b : Expr} {px py pt p2 : Pos} {kt k2 : Nat} {env : Env} (ha : isSt a = false) (hb : isSt b = false) (hne : x ≠ y) (hline : (py.line == px.line) = true) (hs : swapC a b = true)
    (hx : env.scope.names.lookup x = some .local) (hy : env.scope.names.lookup y = some .local) (hk : env.scope.kind = .function) :
    swappedStores [.Tuple [.Name x px, .Name y py] kt pt] (.Tuple [a, b] k2 p2) env = pure (some [x, y]) := by
  have kx : env.kindOf x = some .local := hx
  have ky : env.kindOf y = some .local := hy
  have hbk : env.blockKind = .function := by unfold Env.blockKind; rw [hk]; rfl
  unfold swapC at hs
  rw [Bool.and_eq_true, Bool.not_eq_true', Bool.not_eq_true'] at hs
  unfold swappedStores
  simp only [hs.1, hs.2, hbk, List.filterMap_cons, List.filterMap_nil, kx, ky, beq_self_eq_true, Bool.true_and, List.head?_cons, Option.map_some, Option.getD_some, Expr.pos, hline, if_true]
  have hed : [x, y].eraseDups = [x, y] := by
    have : (y == x) = false := beq_eq_false_iff_ne.mpr fun z => hne z.symm
    simp [List.eraseDups_cons, this]
  simp [hed]
  intro z
  exfalso
  rcases z with z | z
  · cases a <;> first | exact (Bool.noConfusion ha) | exact (Bool.noConfusion z)
  · cases b <;> first | exact (Bool.noConfusion hb) | exact (Bool.noConfusion z)
theorem fs_par2 (o : Ok S c g CX lv X) {j : Nat} {x : Str} {w2 : Bool} {a b : Expr} {ca cb : CE} {px pt p2 : Pos} {kt k2 : Nat} (hij : i ≠ j) (hP : ∀ σ v u, P σ → P ((σ.set i (some v)).set j (some u))) (h1 : (S.N[i]? == some x) = true) (h2 : isLc S x = true) (h3 : (S.N[j]? == some y) = true) (h4 : isLc S y = true) (hk : isFn S = true)
    (hne : (x == y) = false) (hline : (py.line == px.line) = true) (hs : swapC a b = true) (sa : isSt a = false) (sb : isSt b = false) (ha : PE X a (tE c W (evE g ca))) (hb : PE X b (tE c W (evE g cb))) :
    PS X (.Assign [.Tuple [.Name x px, .Name y py] kt pt] (.Tuple [a, b] k2 p2) pos) (tS c W P (evS g (.par2 i w ca j w2 cb))) :=
  PS.imp' (ps_par o.calm o.nd (o.ix h1) (o.ix h3) hij (o.lcl h2) (o.lcl h4) (pa_cons ha (pa_cons hb pa_nil (star_cons sb)) (star_cons sa)) (swapped_two sa sb (fun z => by rw [z, beq_self_eq_true] at hne; cases hne) hline hs (o.lcl h2) (o.lcl h4) (o.fnk hk)) rfl) fun _ _ _ h => s_par hij (fun v u p => hP _ v u p) h
/-- nothing is raised within -/
theorem s_thru {b : CB} {D : Ends} (h : tS c W P (evS g (.ite .tt b .nil)) D σ H) : tS c W P (evB g b) D σ H := by
  obtain ⟨p, w, s, rfl, S, h⟩ := h
  have e : evS g (.ite .tt b .nil) s = evB g b s := by
    unfold evS evT
    rfl
  refine ⟨p, w, s, rfl, S, ?_⟩
  unfold GoS at h ⊢
  rw [e] at h
  exact h
theorem s_parC {K : PySem.W.Frag} {i j : Nat} {o q : Bool} {a b : CE} {D : Ends} (hij : i ≠ j) (hP : ∀ v u, P σ → P ((σ.set i (some v)).set j (some u))) (h : tS c W P (evS g (.par2 i o a j q b)) D σ H) :
    tAsg (tTupF (tCons (tE c W (evE g a)) (tCons (tE c W (evE g b)) tNil))) (gT K (.tn [i, j])) D σ H := by
  obtain ⟨p, w, s, rfl, S, h⟩ := h
  unfold evS at h
  show tE c W (evE g a) σ w.H (fun v H1 => tE c W (evE g b) σ H1 (fun u H2 => [v, u].length ≤ sizeLine ∧ newT [v, u] H2 (fun x H3 => gT K (.tn [i, j]) x σ H3 D.nx)))
  refine tE.stm p S h fun r s1 w1 v x S1 R1 G1 => ?_
  refine tE.stm' p x S1 G1 fun r2 s2 w2 u y S2 R2 G2 => ?_
  refine ⟨show 2 ≤ sizeLine by decide, ?_⟩
  obtain ⟨s3, w3, adr, eH, x3, S3, G3, f1, f2, f3, f4, _⟩ := bind_go x y S2 R2 G2
  have nb : ∀ i, r ≠ .bo i := fun i z => by
    subst z
    cases o with
    | false => exact G3.badB rfl
    | true => exact G3.badB rfl
  have Rp : RR c w w3 (σ.set j (some u)) r v := RR.past eH f1 f2 f3 nb (fun a h n m => (f4 a m).elim n h) R1 y S1
  obtain ⟨s4, w4, _, eH4, x4, S4, G4, _⟩ := bind_go (Ext.refl w) x3 S3 Rp G3
  rw [List.set_comm _ _ (fun z => hij z.symm)] at S4
  intro t ob hd ht
  refine ⟨t, [v, u], rfl, sqT upd_same, rfl, ?_⟩
  have e2 : w2.H = w4.H := (eH4.trans eH).symm
  have gr : Grow w4 (w4.new t (.frz ob (.tup [v, u]))) := Grow.new S4 (by rw [← e2]; exact ht)
  show ∃ v' r', [v, u] = v' :: r' ∧ ∃ v2 r2, r' = v2 :: r2 ∧ r2 = [] ∧ D.nx ((σ.set i (some v')).set j (some v2)) _
  refine ⟨v, [u], rfl, u, [], rfl, rfl, ?_⟩
  have z := GoS.of_ok G4 (a := Fl.nx) rfl (x4.trans gr.ext) (hP v u p) (gr.sr S4)
  rw [e2]
  exact z
theorem not_local (o : Ok S c g CX lv X) (hn : isLc S y = false) : (X.env.kindOf y == some .local) = false := beq_eq_false_iff_ne.mpr fun z => by
  have z : X.env.scope.names.lookup y = some .local := z
  rw [o.sc] at z
  unfold isLc at hn
  rw [z] at hn
  cases hn
theorem swaps_cell {e : Expr} {p : Pos} {l : Nat} {env : Env} (h : (env.kindOf y == some .local) = false) : swapsWith e (some (.Name y p)) l env = pure false := by
  cases e <;> first | rfl | (unfold swapsWith; simp only [h, Bool.and_false, Bool.false_and])
/-- x = e, x a cell, e of any kind -/
theorem fs_asgC (o : Ok S c g CX lv X) {e : Expr} {q : Pos} (hP : ∀ σ v, P σ → P (σ.set i (some v))) (h1 : (S.N[i]? == some y) = true) (h2 : isLx S y = true) (hn : isLc S y = false) (he : PE X e (tE c W (evE g ce))) :
    PS X (.Assign [.Name y q] e pos) (tS c W P (evS g (.asg i w ce))) := PS.imp' (ps_set o.nd (o.ix h1) (o.lx h2).1 he (swaps_cell (not_local o hn)) (o.lx h2).2) fun _ _ _ h => s_asg (fun v p => hP _ v p) h
/-- one of the two a cell -/
theorem fs_parC (o : Ok S c g CX lv X) {j : Nat} {x : Str} {w2 : Bool} {a b : Expr} {ca cb : CE} {px pt p2 : Pos} {kt k2 : Nat} (hij : i ≠ j) (hP : ∀ σ v u, P σ → P ((σ.set i (some v)).set j (some u))) (h1 : (S.N[i]? == some x) = true) (h2 : isLx S x = true) (h3 : (S.N[j]? == some y) = true) (h4 : isLx S y = true)
    (hn : isLc S y = false) (sa : isSt a = false) (sb : isSt b = false) (ha : PE X a (tE c W (evE g ca))) (hb : PE X b (tE c W (evE g cb))) :
    PS X (.Assign [.Tuple [.Name x px, .Name y py] kt pt] (.Tuple [a, b] k2 p2) pos) (tS c W P (evS g (.par2 i w ca j w2 cb))) := by
  have hk : X.env.kindOf y ≠ some .local := fun z => by
    have z : X.env.scope.names.lookup y = some .local := z
    rw [o.sc] at z
    unfold isLc at hn
    rw [z] at hn
    cases hn
  have hs : swappedStores [.Tuple [.Name x px, .Name y py] kt pt] (.Tuple [a, b] k2 p2) X.env = pure none := by
    have hkb : (X.env.kindOf y == some .local) = false := beq_eq_false_iff_ne.mpr hk
    have e1 : (px.line == px.line) = true := beq_self_eq_true _
    unfold swappedStores
    cases hx : (X.env.kindOf x == some .local) <;>
      simp only [List.filterMap_cons, List.filterMap_nil, hkb, hx, Bool.false_and, Bool.true_and, List.head?_cons, Option.map_some, Option.getD_some, Expr.pos, e1, if_true] <;>
      (split <;> first | rfl | (split <;> first | rfl | simp))
  exact PS.imp' (ps_asg (pe_tupF (pa_cons ha (pa_cons hb pa_nil (star_cons sb)) (star_cons sa))) (fg_tn o rfl rfl (fg_cons o h1 h2 (fg_cons o h3 h4 fg_nil))) rfl hs rfl) fun _ _ _ h => s_parC hij (fun v u p => hP _ v u p) h
theorem Ok.nox (o : Ok S c g CX lv X) : Ok S c g CX lv X.nox where
  k := o.k
  n := o.n
  nd := o.nd
  sc := o.sc
  calm := o.calm
  room := o.room
  units := o.units
  no := o.no
  own := PassesOwn.never
  fn := o.fn
  fnT := o.fnT
  gn := o.gn
  cl := o.cl
  ct := o.ct
  bl := o.bl
  fl := o.fl
  init := o.init
  meth := o.meth
  prop := o.prop
  cmeth := o.cmeth
theorem fs_try (o : Ok S c g CX lv X) {b : List Stmt} {h0 : ExceptHandler} {hs : List ExceptHandler} {cb : CB} (hb : ∀ X', Ok S c g CX lv X' → PSs X' b (tS c W P (evB g cb))) : PS X (.Try b (h0 :: hs) [] [] pos) (tS c W P (evS g (.ite .tt cb .nil))) :=
  PS.imp' (ps_try_thru0 (hb _ o.nox)) fun _ _ _ h => s_thru h
theorem ta_star {e : CE} {r : CA} {Q : List V → Hp → Prop} (h : tA c W (evA g (.star e r)) σ H Q) : StX.tStar c.K (tE c W (evE g e)) (tA c W (evA g r)) σ H Q := by
  obtain ⟨w, s, rfl, S, h⟩ := h
  unfold evA at h
  refine tE.bind S h fun r1 s1 w1 v x S1 R1 G1 => ?_
  obtain ⟨d, e1, G2⟩ := Go.optB (o := keepR r1) G1
  obtain ⟨bs, b1, b2, b3⟩ := (RRs.cons R1 .nil).kept x S1 (show keepAll [r1] = some [d] by unfold keepAll; rw [e1]; rfl)
  have b3 : Rep c (w1.keep bs).F (w1.keep bs).H d v := by cases b3 with | cons h _ => exact h
  have S2 := S1.keep b2
  have x2 := x.keep b1
  have fin : ∀ {ds : List Mi.D} {vs : List V}, lstD d = some ds → Reps c (w1.keep bs).F (w1.keep bs).H ds vs → tA c W (evA g r) σ w1.H fun ys H2 => Q (vs ++ ys) H2 := fun {ds vs} e2 rs => by
    rw [e2] at G2
    refine ⟨w1.keep bs, s1, rfl, S2, (G2.bind.up x2).imp fun rs2 s2 w2 y S3 G3 ys R2 => ?_⟩
    have rs3 := S2.reps y rs
    refine Go.pure G3 (x2.trans y) S3 _ ?_
    have app : ∀ {ds : List Mi.D} {vs : List V}, Reps c w2.F w2.H ds vs → RRs c w w2 σ (ds.map R.fz ++ rs2) (vs ++ ys) := fun {ds} => by
      induction ds with
      | nil => intro vs h; cases h; exact R2.weak x2
      | cons d ds ih => intro vs h; cases h with | cons h t => exact .cons h (ih t)
    exact app rs3
  cases d with
  | lst xs =>
    cases b3 with
    | lst f ha rr => exact ⟨_, _, rfl, .inr (SqL.of ha), fin rfl rr⟩
  | tup xs =>
    cases b3 with
    | tup f ha no rr => exact ⟨_, _, rfl, .inl (sqT ha), fin rfl rr⟩
  | _ => exact (G2.of_bad rfl).elim
theorem f_args0 : PArg X [] (tA c W (evA g .nil)) := parg_nil.imp fun _ _ _ h => ta_nil h
theorem f_args1 {e : Expr} {es : List Expr} {ca : CA} (h : noSt (e :: es) = true) (ha : PA X (e :: es) (tA c W (evA g ca))) : PArg X (e :: es) (tA c W (evA g ca)) := by
  obtain ⟨h1, h2⟩ := noSt_cons h
  exact parg_plain ha (star_cons h1) fun pos => noSt_any h2
theorem f_star1 (o : Ok S c g CX lv X) {e : Expr} {p : Pos} (he : PE X e (tE c W (evE g ce))) : PArg X [.Starred e p] (tA c W (evA g (.star ce .nil))) :=
  (parg_star1 he).imp fun σ H Q h => by
    rw [o.k]
    have z := ta_star h
    exact tE.mono z fun v H1 ⟨p, xs, e, q, r⟩ => ⟨p, xs, e, q, ta_nil r⟩
end
end Mi

set_option Elab.async false
set_option linter.all false
set_option maxRecDepth 100000
set_option maxHeartbeats 400000
/-! Mi: statements that hand nothing out. -/
namespace Mi
open PySem
mutual
def nyS : CS → Bool
  | .yld _ => false
  | .yldG _ _ => false
  | .ite _ a b => nyB a && nyB b
  | .forS _ _ b => nyB b
  | .whil _ b => nyB b
  | .tryE b _ h => nyB b && nyB h
  | .mseq _ _ _ b e => nyB b && nyB e
  | _ => true
def nyB : CB → Bool
  | .nil => true
  | .cons s r => nyS s && nyB r
end
theorem so_forL {f : D → M Fl} (h : ∀ d, SameO (f d)) : ∀ {ds : List D}, SameO (forL f ds)
  | [] => so_pure
  | d :: ds => by
    unfold forL
    refine SameO.bind (h d) fun x => ?_
    cases x <;> first | exact so_forL h | exact so_pure
theorem so_whL {t : M Bool} {b : M Fl} (ht : SameO t) (hb : SameO b) : ∀ {n : Nat}, SameO (whL t b n)
  | 0 => so_bad
  | n + 1 => by
    unfold whL
    refine SameO.bind ht fun x => ?_
    cases x with
    | false => exact so_pure
    | true =>
      refine SameO.bind hb fun y => ?_
      cases y <;> first | exact so_whL ht hb | exact so_pure
mutual
theorem so_S (g : G) : ∀ e : CS, nyS e = true → SameO (evS g e)
  | .expr e, _ => by unfold evS; exact SameO.bind (so_E g e) fun _ => so_pure
  | .asg i o e, _ => by unfold evS; exact SameO.bind (so_E g e) fun _ => SameO.bind so_bindM fun _ => so_pure
  | .asgT tg e, _ => by unfold evS; exact SameO.bind (so_E g e) fun _ => SameO.bind so_keepM fun _ => SameO.bind so_asgTg fun _ => so_pure
  | .par2 i o a j p b, _ => by unfold evS; exact SameO.bind (so_E g a) fun _ => SameO.bind (so_E g b) fun _ => SameO.bind so_bindM fun _ => SameO.bind so_bindM fun _ => so_pure
  | .setI i k e, _ => by unfold evS; exact SameO.bind (so_E g e) fun _ => SameO.bind so_ownM fun _ => SameO.bind (so_E g k) fun _ => SameO.bind so_keepM fun _ => SameO.bind so_keepM fun _ => SameO.bind so_updI fun _ => so_pure
  | .subI i k e, _ => by unfold evS; exact SameO.bind so_ownM fun _ => SameO.bind (so_E g k) fun _ => SameO.bind so_keepM fun _ => SameO.bind so_dicInt fun _ => SameO.bind (so_E g e) fun _ => SameO.bind so_opt fun _ => SameO.bind so_ownM fun _ => SameO.bind so_updI fun _ => so_pure
  | .app i e, _ => by unfold evS; exact SameO.bind so_ownM fun _ => SameO.bind (so_E g e) fun _ => SameO.bind so_keepM fun _ => SameO.bind so_updI fun _ => so_pure
  | .setF i c k e, _ => by unfold evS; exact SameO.bind (so_E g e) fun _ => SameO.bind so_keepM fun _ => SameO.bind so_subM fun _ => SameO.bind so_updI fun _ => so_pure
  | .ite t a b, h => by
    have h : (nyB a && nyB b) = true := h
    rw [Bool.and_eq_true] at h
    unfold evS
    refine SameO.bind (so_T g t) fun x => ?_
    split <;> first | exact so_Bk g a h.1 | exact so_Bk g b h.2
  | .forS tg src b, h => by unfold evS; exact SameO.bind (so_I g src) fun ds => so_forL fun d => SameO.bind so_asgTg fun _ => so_Bk g b h
  | .whil t b, h => by unfold evS; exact so_whL (so_T g t) (so_Bk g b h)
  | .ret e, _ => by unfold evS; refine SameO.bind (so_E g e) fun x => ?_; split <;> first | exact so_bad | exact so_pure
  | .retN, _ => by unfold evS; exact so_pure
  | .raise c es, _ => by unfold evS; refine SameO.bind (so_A g es) fun _ => SameO.bind so_opt fun ds => ?_; exact fun s o h => (Option.some.inj (h : some s.out = some o)).symm
  | .tryE b c hd, h => fun s o e => by
    have h : (nyB b && nyB hd) = true := h
    rw [Bool.and_eq_true] at h
    unfold evS at e
    cases q : evB g b s with
    | ok f s1 => simp only [q] at e; exact so_Bk g b h.1 s o (by rw [q]; exact e)
    | bad => simp only [q] at e; exact (nomatch (e : (none : Option (List D)) = some o))
    | exc c' vs s1 =>
      simp only [q] at e
      have z := so_Bk g b h.1 s s1.out (by rw [q]; rfl)
      split at e
      · exact (so_Bk g hd h.2 s1 o e).trans z
      · rw [← Option.some.inj e]; exact z
  | .mseq i is gd b e, h => by
    have h : (nyB b && nyB e) = true := h
    rw [Bool.and_eq_true] at h
    unfold evS
    refine SameO.bind so_getS fun x => ?_
    split
    · split
      · refine SameO.bind so_asgAll fun _ => SameO.bind (so_T g gd) fun t => ?_
        split <;> first | exact so_Bk g b h.1 | exact so_Bk g e h.2
      · exact so_Bk g e h.2
    · split <;> first | exact so_bad | exact so_Bk g e h.2
    · split <;> first | exact so_bad | exact so_Bk g e h.2
    · exact so_bad
  | .pass, _ => by unfold evS; exact so_pure
  | .never, _ => by unfold evS; exact so_bad
  | .cnt, _ => by unfold evS; exact so_pure
  | .brk, _ => by unfold evS; exact so_pure
  | .yld e, h => nomatch (h : false = true)
  | .yldG j es, h => nomatch (h : false = true)
theorem so_Bk (g : G) : ∀ e : CB, nyB e = true → SameO (evB g e)
  | .nil, _ => by unfold evB; exact so_pure
  | .cons s r, h => by
    have h : (nyS s && nyB r) = true := h
    rw [Bool.and_eq_true] at h
    unfold evB
    refine SameO.bind (so_S g s h.1) fun f => ?_
    split <;> first | exact so_Bk g r h.2 | exact so_pure
end
/-! what the statements' rules want of P -/
structure PF (md : List Bool) (P : L2.St → Prop) : Prop where
  k : ∀ σ σ' : L2.St, σ'.length = σ.length → (∀ i : Nat, md[i]? = some true → σ'[i]? = σ[i]?) → P σ → P σ'
theorem PF.top : PF [] (fun _ => True) := ⟨fun _ _ _ _ _ => trivial⟩
theorem PF.pk {md : List Bool} {σ0 : L2.St} : PF md (Pk md σ0) := ⟨fun σ σ' hl hq ⟨p1, p2⟩ => ⟨hl.trans p1, fun i m => (hq i m).trans (p2 i m)⟩⟩
section
variable {md : List Bool} {P : L2.St → Prop}
theorem PF.set (q : PF md P) {i : Nat} (h : (md[i]? == some true) = false) : ∀ (σ : L2.St) (v : L2.V), P σ → P (σ.set i (some v)) := fun σ v p => q.k _ _ (List.length_set) (fun j m => by
  have : i ≠ j := fun z => by subst z; rw [m, beq_self_eq_true] at h; cases h
  rw [List.getElem?_set_ne this]) p
theorem PF.two (q : PF md P) {i j : Nat} (h : (md[i]? == some true) = false) (h2 : (md[j]? == some true) = false) : ∀ (σ : L2.St) (v u : L2.V), P σ → P ((σ.set i (some v)).set j (some u)) := fun σ v u p => q.set h2 _ u (q.set h _ v p)
theorem PF.same (q : PF md P) {is : List Nat} (h : (is.all fun i => !(md[i]? == some true)) = true) : ∀ σ σ' : L2.St, Same is σ σ' → P σ → P σ' := fun σ σ' s p => q.k _ _ s.1 (fun j m => s.2 j fun z => by
  have := List.all_eq_true.mp h j z
  rw [m] at this
  simp at this) p
end
end Mi

set_option Elab.async false
set_option linter.all false
set_option maxRecDepth 100000
set_option maxHeartbeats 1000000
/-! Mi: from the head's facts to the defs' promises. -/
namespace Mi
open PySem PySem.Spec L2 PyProof.Rows
/-! ### the surroundings, for all defs at once -/
structure Gf (S : Fs) (c : Cn) (g : G) (lv : Nat) (P : Program) (w : World) (K : PySem.W.Frag) (mg : Str → Option Value) (base : Heap) : Prop where
  k : K = c.K
  fn : ∀ x j, S.fnOf.lookup x = some j → ∃ f, mg x = some (.ref f) ∧ PySem.W.keepIn K (.ref f) = true ∧ FnR P w K mg base CX0 lv f (spOf c g j)
  gn : ∀ x j, S.gnOf.lookup x = some j → ∃ f, mg x = some (.ref f) ∧ PySem.W.keepIn K (.ref f) = true ∧ GnR c g j P w K mg base lv f ∧ g.va j = false
  cl : ∀ x i, S.clOf.lookup x = some i → mg x = some (.ref (c.C i))
  ct : ∀ x d, S.ctOf.lookup x = some d → ∃ u v, mg x = some u ∧ RelV v u ∧ ∀ F H, Rep c F H d v
  bl : ∀ x, x ∈ ["len", "all", "int", "tuple", "list", "dict", "isinstance", "enumerate", "zip", "range", "bool", "str"] → mg x = none
  fl : ∀ i fs, S.flds[i]? = some fs → c.fl i = fs ∧ fs.Nodup ∧ Cls K (c.C i) ∧ ∀ f ∈ fs, NoAttr K (c.C i) f
  init : ∀ i j, S.inits.lookup i = some j → ∃ f, Mk K (c.C i) f ∧ FnR P w K mg base CX0 lv f (spOf c g j)
  meth : ∀ i m j, S.meths.lookup (i, m) = some j → ∃ f, Meth K (c.C i) m f ∧ FnR P w K mg base CX0 lv f (spOf c g j)
  prop : ∀ i m j, S.props.lookup (i, m) = some j → ∃ p f, PropOf K (c.C i) m p f ∧ FnR P w K mg base CX0 lv f (spOf c g j)
  cmeth : ∀ i m j, S.cmeths.lookup (i, m) = some j → ∃ mc p f, ClX.CRead K (c.C i) mc ∧ ClX.CMet K (c.C i) mc m p f ∧ FnR P w K mg base CX0 lv f (spOf c g j)
theorem Gf.ok {S : Fs} {c : Cn} {g : G} {lv : Nat} {X : Cx} {N : List Str} {sc : Scope} (q : Gf S c g lv X.prog X.w X.K X.mg X.base) (hN : X.N = N) (nd : N.Nodup) (hs : X.env.scope = sc) (hc : X.calm = true) (hr : Room (lv + 1) X.A) (hf : ∀ x, X.fn x = true) (ho : PassesOwn (model X.prog X.w) X.A X.env X.xe) :
    Ok { S with N := N, sc := sc } c g CX0 lv X where
  k := q.k
  n := hN
  nd := by rw [hN]; exact nd
  sc := hs
  calm := hc
  room := hr
  units := by have := hr.un; omega
  no := fun _ _ _ _ _ _ z => z
  own := ho
  fn := q.fn
  fnT := fun _ => hf
  gn := q.gn
  cl := q.cl
  ct := q.ct
  bl := q.bl
  fl := q.fl
  init := q.init
  meth := q.meth
  prop := q.prop
  cmeth := q.cmeth
/-- the defs of a text, n calls deep -/
def Gn (text : List CF) (wf n : Nat) : G := ⟨run0 text wf n, mdOf text, vaOf text, wf⟩
section
variable {text : List CF} {wf n j : Nat} {F : CF}
theorem Gn.call (h : text[j]? = some F) (args : List Slot) : (Gn text wf (n + 1)).call j args = (runF (Gn text wf n) F args).nox := by
  show run0 text wf (n + 1) j args = _
  unfold run0
  rw [h]
  rfl
theorem Gn.md_ (h : text[j]? = some F) : (Gn text wf n).md j = F.md := by
  show mdOf text j = _
  unfold mdOf
  rw [h]
theorem Gn.va_ (h : text[j]? = some F) : (Gn text wf n).va j = F.va := by
  show vaOf text j = _
  unfold vaOf
  rw [h]
variable {S : Fs} {c : Cn} {lv : Nat} {P : Program} {w : World} {K : PySem.W.Frag} {mg : Str → Option Value} {base : Heap} {f : Addr} {fd : FuncData} {name qual : Str} {params : Arguments} {body : List Stmt} {scope : Scope} {N ps : List Str}
theorem body_ok (q : Gf S c (Gn text wf n) (lv + 1) P w K mg base) (nd : N.Nodup)
    (fit : ∀ {X : Cx} {P0 : L2.St → Prop}, Ok { S with N := N, sc := scope } c (Gn text wf n) CX0 (lv + 1) X → PF F.md P0 → PSs X body (tS c WF P0 (evB (Gn text wf n) F.body)))
    (cdv : Value) (A : Around) (outer : List Env) (s : Shared) (H : Hp) (vs : List V) (E : XK) (hr : Room (lv + 2) (A.deeper (envOfC qual scope s.heap.objs.size f cdv))) :
    PSs (cxOf CX0 P w K mg base N qual scope f cdv A outer s H E).nox body (tS c WF (Pk F.md (start N vs)) (evB (Gn text wf n) F.body)) :=
  fit (Gf.ok (X := (cxOf CX0 P w K mg base N qual scope f cdv A outer s H E).nox) q rfl nd rfl rfl hr (fun _ => rfl) PassesOwn.never) PF.pk
/-- a def without * -/
theorem step_fn (h : text[j]? = some F) (q : Gf S c (Gn text wf n) (lv + 1) P w K mg base) (T : FunD K name qual params body scope [] [] f fd) (Sc : FnScope N ps scope) (hps : (ps.length == F.md.length) = true) (hva : F.va = false) (hns : (F.ns == N.length) = true)
    (hb : ∀ (kV doc pm : Value) (an : Option Addr) (cdv ct : Value) (us : List Value), us.length = ps.length → bindArgs (PySem.W.fnOf name qual params body scope .none kV doc pm an cdv ct) ⟨us, []⟩ = pure (ps.zip us))
    (fit : ∀ {X : Cx} {P0 : L2.St → Prop}, Ok { S with N := N, sc := scope } c (Gn text wf n) CX0 (lv + 1) X → PF F.md P0 → PSs X body (tS c WF P0 (evB (Gn text wf n) F.body))) :
    FnR P w K mg base CX0 (lv + 3) f (spOf c (Gn text wf (n + 1)) j) :=
  fn_mi T Sc (T.bindsN hb) (eq_of_beq hps) (Gn.md_ h) ((Gn.va_ h).trans hva) (eq_of_beq hns) (Gn.call h) (body_ok q Sc.nd fit)
theorem step_fnO (h : text[j]? = some F) (q : Gf S c (Gn text wf n) (lv + 1) P w K mg base) (T : FunD K name qual params body scope [] [] f fd) (Sc : FnScope N ps scope) (hps : (ps.length == F.md.length) = true) (hva : F.va = false) (hns : (F.ns == N.length) = true)
    (fit : ∀ {X : Cx} {P0 : L2.St → Prop}, Ok { S with N := N, sc := scope } c (Gn text wf n) CX0 (lv + 1) X → PF F.md P0 → PSs X body (tS c WF P0 (evB (Gn text wf n) F.body))) :
    FnOk P w K mg base CX0 (lv + 3) f fd ps (spOf c (Gn text wf (n + 1)) j) :=
  fn_miO T Sc (eq_of_beq hps) (Gn.md_ h) ((Gn.va_ h).trans hva) (eq_of_beq hns) (Gn.call h) (body_ok q Sc.nd fit)
/-- .. with *v -/
theorem step_fnS {pv : Str} (h : text[j]? = some F) (q : Gf S c (Gn text wf n) (lv + 1) P w K mg base) (T : FunD K name qual params body scope [] [] f fd) (Sc : FnScope N (ps ++ [pv]) scope) (hps : (ps.length == F.md.length) = true) (hva : F.va = true) (hns : (F.ns == N.length) = true)
    (hb : ∀ (kV doc pm : Value) (an : Option Addr) (cdv ct : Value) (us rest : List Value), us.length = ps.length → bindArgs (PySem.W.fnOf name qual params body scope .none kV doc pm an cdv ct) ⟨us ++ rest, []⟩ = (newTuple rest >>= fun t => pure (ps.zip us ++ [(pv, t)])))
    (fit : ∀ {X : Cx} {P0 : L2.St → Prop}, Ok { S with N := N, sc := scope } c (Gn text wf n) CX0 (lv + 1) X → PF F.md P0 → PSs X body (tS c WF P0 (evB (Gn text wf n) F.body))) :
    FnR P w K mg base CX0 (lv + 3) f (spOf c (Gn text wf (n + 1)) j) :=
  fn_miS T Sc hb (eq_of_beq hps) (Gn.md_ h) ((Gn.va_ h).trans hva) (eq_of_beq hns) (Gn.call h) (body_ok q Sc.nd fit)
/-- a generator def -/
theorem step_gn (h : text[j]? = some F) (q : Gf S c (Gn text wf n) (lv + 1) P w K mg base) (T : FunD K name qual params body scope [] [] f fd) (Sc : GScope N ps scope) (hnc : (scope.names.all fun y => match y.2 with | .cell => false | _ => true) = true) (hps : (ps.length == F.md.length) = true) (hns : (F.ns == N.length) = true) (hnr : nrB F.body = true)
    (hb : ∀ (kV doc pm : Value) (an : Option Addr) (cdv ct : Value) (us : List Value), us.length = ps.length → bindArgs (PySem.W.fnOf name qual params body scope .none kV doc pm an cdv ct) ⟨us, []⟩ = pure (ps.zip us))
    (fit : ∀ {U : GD}, GOk U → U.K = c.K → U.scope.isCoroutine = false → (∀ s0 H0, Ok { S with N := N, sc := scope } c (Gn text wf n) CX0 (lv + 1) (U.cx s0 H0)) → GSs c U body (evB (Gn text wf n) F.body)) :
    GnR c (Gn text wf (n + 1)) j P w K mg base (lv + 3) f := by
  have hbd := T.bindsN hb
  obtain ⟨oc, od, dV, kV, doc, pm, an, cdv, ct, osl, rfl, lk, hcd, _, _⟩ := T.ex
  refine gnr_of (g' := Gn text wf n) (cb := F.body) (ns := F.ns) (kk := lv + 2) lk hcd Sc (fun y m e => by
    have := List.all_eq_true.mp hnc y m
    rw [e] at this
    cases this) hbd ((eq_of_beq hps).trans (congrArg List.length (Gn.md_ h)).symm) (eq_of_beq hns) hnr (fun sl r outs ds e => ?_) fun U e1 e2 e3 e4 e5 e6 e7 hr gk => ?_
  · rw [Gn.call h] at e
    unfold runF at e
    cases q : evB (Gn text wf n) F.body { fr := sl ++ List.replicate (F.ns - sl.length) .emp, out := [] } with
    | bad => rw [q] at e; cases e
    | exc k vs s => rw [q] at e; cases e
    | ok fl s =>
      rw [q] at e
      cases fl with
      | nx => cases e; exact ⟨_, _, rfl, (fun z => by cases z), (fun z => by cases z), rfl⟩
      | brk => cases e
      | cnt => cases e
      | ret r =>
        cases r with
        | bo i => cases e
        | fz d => cases e; exact ⟨_, _, rfl, (fun z => by cases z), (fun z => by cases z), rfl⟩
        | ow d sub => cases e; exact ⟨_, _, rfl, (fun z => by cases z), (fun z => by cases z), rfl⟩
  · subst e1 e2 e3 e4 e5 e6 e7
    exact fit gk q.k Sc.co fun s0 H0 => Gf.ok (X := U.cx s0 H0) q rfl Sc.nd rfl rfl hr (fun _ => rfl) PassesOwn.never
end
theorem lk_mem {α β : Type} [BEq α] [LawfulBEq α] {x : α} {y : β} : ∀ {l : List (α × β)}, l.lookup x = some y → (x, y) ∈ l
  | [], h => by cases h
  | (a, b) :: l, h => by
    rw [List.lookup_cons] at h
    cases q : (x == a) with
    | true =>
      rw [q] at h
      rw [eq_of_beq q, Option.some.inj h]
      exact List.mem_cons_self
    | false =>
      rw [q] at h
      exact List.mem_cons_of_mem _ (lk_mem h)
theorem fn_zero {text : List CF} {wf j lv : Nat} {c : Cn} {P : Program} {w : World} {K : PySem.W.Frag} {mg : Str → Option Value} {base : Heap} {f : Addr} : FnR P w K mg base CX0 lv f (spOf c (Gn text wf 0) j) :=
  fun A outer s H us vs Q E hr e0 r ⟨_, _, _, _, _, _, _, _, _, _, _, _, h⟩ => (show False from h).elim
theorem gn_zero {text : List CF} {wf j lv : Nat} {c : Cn} {P : Program} {w : World} {K : PySem.W.Frag} {mg : Str → Option Value} {base : Heap} {f : Addr} : GnR c (Gn text wf 0) j P w K mg base lv f :=
  fun A outer s wd us vs sl r outs ds _ _ _ _ _ _ h => nomatch (show FR.bad = FR.ok r outs ds from h)
/-! ### facts that the head computes -/
def pgA (K : PySem.W.Frag) (C : Addr) (m : Str) : Addr := match PySem.W.recIn K (He.ma K C m) "property" with
  | some (.ref g :: _) => g
  | _ => 0
def propB (K : PySem.W.Frag) (C : Addr) (m : Str) : Bool := decide (PySem.W.findIn K (.ref C) m = some (some (.ref (He.ma K C m)))) && (decide (PySem.W.specialIn K (.ref (He.ma K C m)) "__get__" = some (some (.builtin "property.__get__"))) &&
  (decide (PySem.W.takesIn K (.ref (He.ma K C m)) = some true) && (match PySem.W.recIn K (He.ma K C m) "property" with
    | some (.ref _ :: _) => true
    | _ => false)))
theorem propB_ok {K : PySem.W.Frag} {C : Addr} {m : Str} (h : propB K C m = true) : PropOf K C m (He.ma K C m) (pgA K C m) := by
  unfold propB at h
  simp only [Bool.and_eq_true, decide_eq_true_eq] at h
  obtain ⟨h1, h2, h3, h4⟩ := h
  refine ⟨h1, h2, h3, ?_⟩
  unfold pgA
  split at h4
  · rename_i g r e
    exact ⟨r, by rw [e]⟩
  · cases h4
def cmB (K : PySem.W.Frag) (C : Addr) (m : Str) : Bool := PySem.W.readsIn K C (.type "type") && (decide (PySem.W.specialIn K (.ref C) "__getattribute__" = some (some (.builtin "type.__getattribute__"))) &&
  (He5.wrapB K C "classmethod" "classmethod.__get__" m && PySem.W.fnIn K (He5.wf K C "classmethod" m)))
theorem cmB_ok {K : PySem.W.Frag} {C : Addr} {m : Str} (h : cmB K C m = true) : ClX.CRead K C (.type "type") ∧ ClX.CMet K C (.type "type") m (He.ma K C m) (He5.wf K C "classmethod" m) := by
  unfold cmB at h
  simp only [Bool.and_eq_true, decide_eq_true_eq] at h
  exact ⟨⟨h.1, h.2.1⟩, He5.cmet_of h.2.2.1 h.2.2.2⟩
abbrev AlM : Type := Bool × He.AlD
def obsM (ex : List (PySem.W.Frag → Bool)) (fa : List He.Fa) (fn : List He5.DefA) (K : PySem.W.Frag) : AlM := (ex.all fun f => f K, He5.obsA fa fn K)
def SaysM (ex : List (PySem.W.Frag → Bool)) (fa : List He.Fa) (fn : List He5.DefA) (K : PySem.W.Frag) : Prop := obsM ex fa fn K = (true, He5.valA fn)
def lookM (n : Nat) (ex : List (PySem.W.Frag → Bool)) (fa : List He.Fa) (fn : List He5.DefA) (g : Addr → Option Obj) : AlM := obsM ex fa fn (He.frG g (He5.asA g n))
def hookM (n : Nat) (ex : List (PySem.W.Frag → Bool)) (fa : List He.Fa) (fn : List He5.DefA) : PySem.W.Hook where
  α := AlM
  obs := fun s => lookM n ex fa fn s.heap.get?
  val := fun _ => (true, He5.valA fn)
  says := fun _ h => ∃ K : PySem.W.Frag, K.In h ∧ SaysM ex fa fn K
  of := fun _ _ e => ⟨_, He.frG_in, e⟩
  keeps := fun _ _ _ ⟨K, a, b⟩ k => ⟨K, a.keeps k, b⟩
theorem lookM_eq {n : Nat} {ex : List (PySem.W.Frag → Bool)} {fa : List He.Fa} {fn : List He5.DefA} {g : Addr → Option Obj} {s : Shared} (h : ∀ a, g a = s.heap.get? a) : lookM n ex fa fn g = (hookM n ex fa fn).obs s := by
  obtain rfl : g = s.heap.get? := funext h
  rfl
section
variable {ex : List (PySem.W.Frag → Bool)} {fa : List He.Fa} {fn : List He5.DefA} {K : PySem.W.Frag}
theorem SaysM.a (h : SaysM ex fa fn K) : He5.SaysA fa fn K := congrArg Prod.snd h
theorem SaysM.x (h : SaysM ex fa fn K) (i : Nat) {f : PySem.W.Frag → Bool} (e : ex[i]? = some f) : f K = true :=
  List.all_eq_true.mp (show (ex.all fun f => f K) = true from congrArg Prod.fst h) f (List.mem_of_getElem? e)
end
/-! ### the law's call -/
theorem law_sp {c : Cn} {g : G} {j : Nat} {H : Hp} {a : Addr} {ns : List Int} (hm : g.md j = [false]) (hv : g.va j = false) (h : SqL c.K H a (ns.map V.int)) (hr : ∃ outs tr, g.call j [.fz (.scr ns)] = .ok (.fz (.bl true)) outs tr) : spOf c g j [.ref a] H (fun v _ => v = .bl true) fun _ _ _ => False := by
  obtain ⟨outs, tr, e⟩ := hr
  have fin : ∀ w : Wd, SpR c w ([V.ref a].map some) (fun v _ => v = .bl true) (fun _ _ _ => False) (g.call j ([.fz (.scr ns)] ++ if g.va j then [.fz (.tup [])] else [])) := fun w => by
    rw [hv]
    show SpR c w _ _ _ (g.call j [.fz (.scr ns)])
    rw [e]
    intro w' v _ _ r
    cases r
    rfl
  rcases h with h | h
  · refine ⟨⟨fun b => b = a, H, []⟩, [.ref a], [], [.fz (.scr ns)], [], rfl, rfl, by rw [hm]; rfl, Nat.zero_le _, fun _ => rfl, ⟨.fz (.scr rfl h) .nil, List.nodup_nil, fun b m => (by cases m), fun b z => ?_⟩, .nil, fin _⟩
    subst z
    rcases h with h | ⟨o, h⟩ <;> (intro q; have q : H b = none := q; rw [q] at h; cases h)
  · exact ⟨⟨fun b => False, H, []⟩, [.ref a], [], [.fz (.scr ns)], [], rfl, rfl, by rw [hm]; rfl, Nat.zero_le _, fun _ => rfl, ⟨.fz (.scrK fun H' => .inr h) .nil, List.nodup_nil, fun b m => (by cases m), fun b z => z.elim⟩, .nil, fin _⟩
end Mi

set_option Elab.async false
set_option linter.all false
set_option maxRecDepth 100000
set_option maxHeartbeats 1000000
/-! Mi: the evaluator, step by step, over data. -/
namespace Mi
open PySem L2
section
variable {α β : Type}
theorem bindq (m : M α) (k : α → M β) (s : Sta) : (m >>= k) s = (match m s with | .ok a s' => k a s' | .exc c v s' => .exc c v s' | .bad => .bad) := rfl
theorem pureq (a : α) (s : Sta) : (pure a : M α) s = .ok a s := rfl
theorem badq (s : Sta) : (M.bad : M α) s = .bad := rfl
theorem optq (o : Option α) (s : Sta) : M.opt o s = (match o with | some a => .ok a s | none => .bad) := by cases o <;> rfl
end
theorem ofBRq (b : BR) (s : Sta) : ofBR b s = (match b with | .fz d => .ok (.fz d) s | .ow d => .ok (.ow d []) s | .bad => .bad) := by cases b <;> rfl
theorem getq (i : Nat) (s : Sta) : getS i s = (match s.fr[i]? with | some x => .ok x s | none => .bad) := rfl
theorem setq (i : Nat) (x : Slot) (s : Sta) : setS i x s = if i < s.fr.length then .ok () { s with fr := s.fr.set i x } else .bad := rfl
theorem readsq (rs : List R) (s : Sta) : reads rs s = (match rdAll s rs with | some ds => .ok ds s | none => .bad) := rfl
theorem keepq (r : R) (s : Sta) : keepM r s = (match keepR r with | some d => .ok d s | none => .bad) := by unfold keepM; cases keepR r <;> rfl
theorem tagq (r : R) (s : Sta) : tagM r s = (match rdR s r with | some d => .ok (tag d) s | none => .bad) := rfl
/-! operations -/
section
variable {xs ys : List D} {i j : Int} {a b : D} {x y : Str} {kvs : List (Key × D)} {ts : List Ty} {ns : List Int}
theorem u_isi : evBI (.isinst ts) [a] = .b (isAny ts a) := rfl
theorem u_lenT : evBI .len [.tup xs] = .fz (.int xs.length) := rfl
theorem u_lenL : evBI .len [.lst xs] = .fz (.int xs.length) := rfl
theorem u_lenS : evBI .len [.scr ns] = .fz (.int ns.length) := rfl
theorem u_lenX : evBI .len [.str x] = if x.length ≤ LIM then .fz (.int x.length) else .bad := rfl
theorem u_idxT : evBI .idx [.tup xs, .int i] = .o (atI xs i) := rfl
theorem u_idxL : evBI .idx [.lst xs, .int i] = .o (atI xs i) := rfl
theorem u_idxS : evBI .idx [.scr ns, .int i] = .o ((atI ns i).map .int) := rfl
theorem u_idxD : evBI .idx [.dic kvs, .str x] = .o (dget kvs (.inr x)) := rfl
theorem u_sl01T : evBI (.slc false true) [.tup xs, .int i] = .fz (.tup (cut xs none (some i))) := rfl
theorem u_sl10T : evBI (.slc true false) [.tup xs, .int i] = .fz (.tup (cut xs (some i) none)) := rfl
theorem u_sl01L : evBI (.slc false true) [.lst xs, .int i] = .ow (.lst (cut xs none (some i))) := rfl
theorem u_sl10L : evBI (.slc true false) [.lst xs, .int i] = .ow (.lst (cut xs (some i) none)) := rfl
theorem u_add : evBI .add [.int i, .int j] = .fz (.int (i + j)) := rfl
theorem u_addL : evBI .add [.lst xs, .lst ys] = if xs.length + ys.length ≤ LIM then .ow (.lst (xs ++ ys)) else .bad := rfl
theorem u_sub : evBI .sub [.int i, .int j] = .fz (.int (i - j)) := rfl
theorem u_mul : evBI .mul [.int i, .int j] = if small64 i = true ∨ small64 j = true then .fz (.int (i * j)) else .bad := rfl
theorem u_fdiv : evBI .fdiv [.int i, .int j] = if j ≠ 0 ∧ j.natAbs < 1073741824 then .fz (.int (i.fdiv j)) else .bad := rfl
theorem u_mod : evBI .mod [.int i, .int j] = if j ≠ 0 then .fz (.int (i.fmod j)) else .bad := rfl
theorem u_int : evBI .toInt [.int i] = .fz (.int i) := rfl
theorem u_tupT : evBI .toTup [.tup xs] = .fz (.tup xs) := rfl
theorem u_tupL : evBI .toTup [.lst xs] = .fz (.tup xs) := rfl
theorem u_tupD : evBI .toTup [.dic kvs] = .fz (.tup (kvs.map fun p => kD p.1)) := rfl
theorem u_lstT : evBI .toLst [.tup xs] = .ow (.lst xs) := rfl
theorem u_lstL : evBI .toLst [.lst xs] = .ow (.lst xs) := rfl
theorem u_vals : evBI .listVals [.dic kvs] = .ow (.lst (kvs.map fun p => p.2)) := rfl
theorem u_cm {k : Cm} : evBI (.cm k) [a, b] = .b (cmD k a b) := rfl
theorem v_eq : cmD .eq a b = eqD a b := by cases a <;> rfl
theorem v_ne : cmD .ne a b = (eqD a b).map not := by cases a <;> rfl
theorem v_lt : cmD .lt (.int i) (.int j) = some (decide (i < j)) := rfl
theorem v_le : cmD .le (.int i) (.int j) = some (decide (i ≤ j)) := rfl
theorem v_gt : cmD .gt (.int i) (.int j) = some (decide (j < i)) := rfl
theorem v_ge : cmD .ge (.int i) (.int j) = some (decide (j ≤ i)) := rfl
theorem v_isN : cmD .isN .non .non = some true := rfl
theorem v_isN1 : cmD .isN (.str x) .non = some false := rfl
theorem v_isN2 : cmD .isN (.tup xs) .non = some false := rfl
theorem v_notN : cmD .notN .non .non = some false := rfl
theorem v_notN1 : cmD .notN (.str x) .non = some true := rfl
theorem v_notN2 : cmD .notN (.tup xs) .non = some true := rfl
theorem v_inT : cmD .isin a (.tup xs) = anyEq a xs := by cases a <;> rfl
theorem v_inL : cmD .isin a (.lst xs) = anyEq a xs := by cases a <;> rfl
theorem v_inD : cmD .isin (.str x) (.dic kvs) = some (dget kvs (.inr x)).isSome := rfl
theorem v_niT : cmD .notin a (.tup xs) = (anyEq a xs).map not := by cases a <;> rfl
theorem v_niL : cmD .notin a (.lst xs) = (anyEq a xs).map not := by cases a <;> rfl
theorem v_niD : cmD .notin (.str x) (.dic kvs) = some (!(dget kvs (.inr x)).isSome) := rfl
theorem eqii : eqD (.int i) (.int j) = some (i == j) := rfl
theorem eqss : eqD (.str x) (.str y) = some (x == y) := rfl
theorem eqsn : eqD (.str x) .non = some false := rfl
theorem eqns : eqD .non (.str x) = some false := rfl
theorem eqnn : eqD .non .non = some true := rfl
end
theorem b_some (b : Bool) : BR.b (some b) = .fz (.bl b) := rfl
theorem o_some (d : D) : BR.o (some d) = .fz d := rfl
theorem ofBR1 (d : D) (s : Sta) : ofBR (.fz d) s = .ok (.fz d) s := rfl
theorem ofBR2 (d : D) (s : Sta) : ofBR (.ow d) s = .ok (.ow d []) s := rfl
theorem nox1 (r : R) (o : List Slot) (t : List D) : FR.nox (.ok r o t) = .ok r o t := rfl
theorem isT1 (x : Str) : isAny [.str] (.str x) = some true := rfl
theorem isT2 (xs : List D) : isAny [.tup] (.tup xs) = some true := rfl
theorem isI1 (i : Int) : isAny [.int] (.int i) = some true := rfl
theorem isB1 (i : Int) : isAny [.bool] (.int i) = some false := rfl
theorem tru1 (b : Bool) : truD (.bl b) = some b := rfl
section
variable {g : G} {s : Sta}
theorem evT_tt : evT g .tt s = .ok true s := by unfold evT; rfl
theorem evT_val (e : CE) : evT g (.val e) s = (match evE g e s with | .ok r s' => (match (rdR s' r).bind truD with | some b => .ok b s' | none => .bad) | .exc c v s' => .exc c v s' | .bad => .bad) := by
  conv => lhs; unfold evT
  show M.bind (evE g e) _ s = _
  unfold M.bind
  cases evE g e s with
  | ok r s' =>
    dsimp only
    try (cases (rdR s' r).bind truD <;> rfl)
  | _ => rfl
theorem evT_not (t : CT) : evT g (.not t) s = (match evT g t s with | .ok b s' => .ok (!b) s' | .exc c v s' => .exc c v s' | .bad => .bad) := by
  conv => lhs; unfold evT
  rw [bindq]
  cases evT g t s <;> rfl
theorem evT_and (a b : CT) : evT g (.and a b) s = (match evT g a s with | .ok x s' => if x = true then evT g b s' else .ok false s' | .exc c v s' => .exc c v s' | .bad => .bad) := by
  have e : evT g (.and a b) s = (evT g a >>= fun x => if x = true then evT g b else pure false) s := by conv => lhs; unfold evT; rfl
  rw [e, bindq]
  cases evT g a s with
  | ok x s' => cases x <;> rfl
  | _ => rfl
theorem evT_or (a b : CT) : evT g (.or a b) s = (match evT g a s with | .ok x s' => if x = true then .ok true s' else evT g b s' | .exc c v s' => .exc c v s' | .bad => .bad) := by
  have e : evT g (.or a b) s = (evT g a >>= fun x => if x = true then pure true else evT g b) s := by conv => lhs; unfold evT; rfl
  rw [e, bindq]
  cases evT g a s with
  | ok x s' => cases x <;> rfl
  | _ => rfl
theorem evE_fld (a : CE) (c k : Nat) : evE g (.fld a c k) s = (match evE g a s with | .ok r s' => (match ldF s' r c k with | some d => .ok (.fz d) s' | none => .bad) | .exc c v s' => .exc c v s' | .bad => .bad) := by
  conv => lhs; unfold evE
  show M.bind (evE g a) _ s = _
  unfold M.bind
  cases evE g a s with
  | ok r s' =>
    dsimp only
    try (cases ldF s' r c k <;> rfl)
  | _ => rfl
/-! the syntax, one kind after the other -/
def loopF (g : G) (tg : Tg) (b : CB) : D → M Fl := fun d => asgTg tg d >>= fun _ => evB g b
def lcF (g : G) (tg : Tg) (t : CT) (e : CE) (own : List Nat) : D → M (Option D) := fun d => do
  asgTg tg d
  if (← evT g t) = true then do
    let x ← keepM (← evE g e)
    wipeM own
    pure (some x)
  else do
    wipeM own
    pure none
def dcF (g : G) (tg : Tg) (k v : CE) (own : List Nat) : D → M (Key × D) := fun d => do
  asgTg tg d
  let kr ← evE g k
  let vr ← evE g v
  let kd ← keepM kr
  let vd ← keepM vr
  let kk ← M.opt (keyOf kd)
  wipeM own
  pure (kk, vd)
variable {i j k cc : Nat} {d : D} {x m : Str} {es : CA} {b : BI} {c1 c2 : Cm} {a e f : CE} {t : CT} {src : CI} {tg : Tg} {own is : List Nat} {o p : Bool} {b1 b2 : CB} {st : CS}
theorem evE_var : evE g (.var i) = (getS i >>= fun x => match x with | .fz d => pure (.fz d) | _ => M.bad) := by
  conv => lhs; unfold evE
  try rfl
theorem evE_bor : evE g (.bor i) = (getS i >>= fun x => match x with | .ow _ _ => pure (.bo i) | _ => M.bad) := by
  conv => lhs; unfold evE
  try rfl
theorem evE_mv : evE g (.mv i) = (getS i >>= fun x => match x with | .ow d sub => (setS i .emp >>= fun _ => pure (.ow d sub)) | _ => M.bad) := by
  conv => lhs; unfold evE
  try rfl
theorem evE_cst : evE g (.cst d) = pure (.fz d) := by
  conv => lhs; unfold evE
  try rfl
theorem evE_gcst : evE g (.gcst x d) = pure (.fz d) := by
  conv => lhs; unfold evE
  try rfl
theorem evE_tup : evE g (.tupE es) = (evA g es >>= fun rs => M.opt (keepAll rs) >>= fun ds => if ds.length ≤ LIM then pure (.fz (.tup ds)) else M.bad) := by
  conv => lhs; unfold evE
  try rfl
theorem evE_lst : evE g (.lstE es) = (evA g es >>= fun rs => M.opt (keepAll rs) >>= fun ds => if ds.length ≤ LIM then pure (.ow (.lst ds) []) else M.bad) := by
  conv => lhs; unfold evE
  try rfl
theorem evE_dic : evE g .dicE = pure (.ow (.dic []) []) := by
  conv => lhs; unfold evE
  try rfl
theorem evE_bi : evE g (.bi b es) = (evA g es >>= fun rs => reads rs >>= fun ds => ofBR (evBI b ds)) := by
  conv => lhs; unfold evE
  try rfl
theorem evE_bm : evE g (.bm b a es) = (evE g a >>= fun x => tagM x >>= fun k => if bmOk b k = true then evA g es >>= fun rs => reads (x :: rs) >>= fun ds => ofBR (evBM k b ds) else M.bad) := by
  conv => lhs; unfold evE
  try rfl
theorem evE_call : evE g (.call j es) = (evA g es >>= fun rs => doCall g j rs) := by
  conv => lhs; unfold evE
  try rfl
theorem evE_prop : evE g (.prop a cc m j) = (evE g a >>= fun r => insM cc r >>= fun _ => doCall g j [r]) := by
  conv => lhs; unfold evE
  try rfl
theorem evE_meth : evE g (.meth a cc m j es) = (evE g a >>= fun x => insM cc x >>= fun _ => evA g es >>= fun rs => doCall g j (x :: rs)) := by
  conv => lhs; unfold evE
  try rfl
theorem evE_mk : evE g (.mk cc j es) = (evA g es >>= fun rs => doMk g cc j rs) := by
  conv => lhs; unfold evE
  try rfl
theorem evE_cmeth : evE g (.cmeth cc m j es) = (evA g es >>= fun rs => doCall g j (.fz (.cls cc) :: rs)) := by
  conv => lhs; unfold evE
  try rfl
theorem evE_lc : evE g (.lc src tg t e own) = (evI g src >>= fun ds => blk own (lcL (lcF g tg t e own) ds []) >>= fun xs => pure (.ow (.lst xs) [])) := by
  conv => lhs; unfold evE
  try rfl
theorem evE_dc : evE g (.dc src tg e f own) = (evI g src >>= fun ds => blk own (dcL (dcF g tg e f own) ds []) >>= fun xs => pure (.ow (.dic xs) [])) := by
  conv => lhs; unfold evE
  try rfl
theorem evE_pop : evE g (.pop i e) = (ownM i (· == 6) >>= fun _ => evE g e >>= fun r => M.opt ((keepR r).bind intOf) >>= fun k => popM i k) := by
  conv => lhs; unfold evE
  try rfl
theorem evE_and : evE g (.and a e) s = (match evE g a s with | .ok (.fz (.bl x)) s' => if x = true then evE g e s' else .ok (.fz (.bl false)) s' | .ok _ _ => .bad | .exc c v s' => .exc c v s' | .bad => .bad) := by
  conv => lhs; unfold evE
  rw [bindq]
  cases evE g a s with
  | ok r s' =>
    cases r with
    | fz d => cases d with
      | bl x => cases x <;> rfl
      | _ => rfl
    | _ => rfl
  | _ => rfl
theorem evE_or : evE g (.or a e) s = (match evE g a s with | .ok (.fz (.bl x)) s' => if x = true then .ok (.fz (.bl true)) s' else evE g e s' | .ok _ _ => .bad | .exc c v s' => .exc c v s' | .bad => .bad) := by
  conv => lhs; unfold evE
  rw [bindq]
  cases evE g a s with
  | ok r s' =>
    cases r with
    | fz d => cases d with
      | bl x => cases x <;> rfl
      | _ => rfl
    | _ => rfl
  | _ => rfl
theorem evE_not : evE g (.not a) s = (match evE g a s with | .ok (.fz (.bl x)) s' => .ok (.fz (.bl (!x))) s' | .ok _ _ => .bad | .exc c v s' => .exc c v s' | .bad => .bad) := by
  conv => lhs; unfold evE
  rw [bindq]
  cases evE g a s with
  | ok r s' =>
    cases r with
    | fz d => cases d <;> rfl
    | _ => rfl
  | _ => rfl
theorem evE_ite : evE g (.ite t a e) = (evT g t >>= fun b => if b = true then evE g a else evE g e) := by
  conv => lhs; unfold evE
theorem evE_chain : evE g (.chain c1 c2 a e f) = (evE g a >>= fun x => evE g e >>= fun y => reads [x, y] >>= fun ds => match evBI (.cm c1) ds with
    | .fz (.bl true) => evE g f >>= fun z => reads [y, z] >>= fun ds => ofBR (evBI (.cm c2) ds)
    | .fz (.bl false) => pure (.fz (.bl false))
    | _ => M.bad) := by
  conv => lhs; unfold evE
  try rfl
theorem evE_mkv : evE g (.mkv i cc j es) = (getS i >>= fun x => match x with
    | .fz (.cls c') => if c' = cc then evA g es >>= fun rs => doMk g cc j rs else M.bad
    | _ => M.bad) := by
  conv => lhs; unfold evE
  try rfl
theorem evS_expr : evS g (.expr e) = (evE g e >>= fun _ => pure .nx) := by
  conv => lhs; unfold evS
  try rfl
theorem evS_asg : evS g (.asg i o e) = (evE g e >>= fun r => bindM i o r >>= fun _ => pure .nx) := by
  conv => lhs; unfold evS
  try rfl
theorem evS_asgT : evS g (.asgT tg e) = (evE g e >>= fun r => keepM r >>= fun d => asgTg tg d >>= fun _ => pure .nx) := by
  conv => lhs; unfold evS
  try rfl
theorem evS_par2 : evS g (.par2 i o a j p e) = (evE g a >>= fun x => evE g e >>= fun y => bindM j p y >>= fun _ => bindM i o x >>= fun _ => pure .nx) := by
  conv => lhs; unfold evS
  try rfl
theorem evS_setI : evS g (.setI i a e) = (evE g e >>= fun v => ownM i (fun _ => true) >>= fun _ => evE g a >>= fun kd => keepM v >>= fun dv => keepM kd >>= fun dk => updI i (putI dk dv) >>= fun _ => pure .nx) := by
  conv => lhs; unfold evS
  try rfl
theorem evS_subI : evS g (.subI i a e) = (ownM i (fun _ => true) >>= fun _ => evE g a >>= fun r => keepM r >>= fun kd => dicInt i kd >>= fun x => evE g e >>= fun r2 => M.opt ((keepR r2).bind intOf) >>= fun y => ownM i (· == 7) >>= fun _ => updI i (putI kd (.int (x - y))) >>= fun _ => pure .nx) := by
  conv => lhs; unfold evS
  try rfl
theorem evS_app : evS g (.app i e) = (ownM i (· == 6) >>= fun _ => evE g e >>= fun r => keepM r >>= fun d => updI i (appI d) >>= fun _ => pure .nx) := by
  conv => lhs; unfold evS
  try rfl
theorem evS_setF : evS g (.setF i cc k e) = (evE g e >>= fun r => keepM r >>= fun d => subM i k >>= fun _ => updI i (putFl cc k d) >>= fun _ => pure .nx) := by
  conv => lhs; unfold evS
  try rfl
theorem evS_ite : evS g (.ite t b1 b2) = (evT g t >>= fun b => if b = true then evB g b1 else evB g b2) := by
  conv => lhs; unfold evS
  try rfl
theorem evS_for : evS g (.forS tg src b1) = (evI g src >>= fun ds => forL (loopF g tg b1) ds) := by
  conv => lhs; unfold evS
  try rfl
theorem evS_ret : evS g (.ret e) = (evE g e >>= fun r => match r with | .bo _ => M.bad | r => pure (.ret r)) := by
  conv => lhs; unfold evS
  try rfl
theorem evS_retN : evS g .retN = pure (.ret (.fz .non)) := by
  conv => lhs; unfold evS
  try rfl
theorem evS_pass : evS g .pass = pure .nx := by
  conv => lhs; unfold evS
  try rfl
theorem evS_brk : evS g .brk = pure .brk := by
  conv => lhs; unfold evS
  try rfl
theorem evS_cnt : evS g .cnt = pure .cnt := by
  conv => lhs; unfold evS
  try rfl
theorem evS_yld : evS g (.yld e) = (evE g e >>= fun r => keepM r >>= fun d => yldM d >>= fun _ => pure .nx) := by
  conv => lhs; unfold evS
  try rfl
theorem evS_mseq {gd : CT} : evS g (.mseq i is gd b1 b2) = (getS i >>= fun x => match x with
    | .fz (.tup ds) => if ds.length = is.length then asgAll is ds >>= fun _ => evT g gd >>= fun t => (if t = true then evB g b1 else evB g b2) else evB g b2
    | .fz (.lst ds) => if ds.length = is.length then M.bad else evB g b2
    | .fz d => if noSeq d = true then evB g b2 else M.bad
    | _ => M.bad) := by
  conv => lhs; unfold evS
  try rfl
end
end Mi

set_option Elab.async false
set_option linter.all false
set_option maxRecDepth 100000
set_option maxHeartbeats 1000000
/-! Mi: loops and dicts over typed data. -/
namespace Mi
open PySem L2
section
variable {A : Type}
/-- a loop that goes through: I what was done, what is left, the state -/
theorem forL_thru {f : D → M Fl} (enc : A → D) (I : List A → List A → Sta → Prop) (h : ∀ pre x post s, I pre (x :: post) s → ∃ s', f (enc x) s = .ok .nx s' ∧ I (pre ++ [x]) post s') :
    ∀ (post pre : List A) (s : Sta), I pre post s → ∃ s', forL f (post.map enc) s = .ok .nx s' ∧ I (pre ++ post) [] s'
  | [], pre, s, i => ⟨s, rfl, by rw [List.append_nil]; exact i⟩
  | x :: post, pre, s, i => by
    obtain ⟨s1, e1, i1⟩ := h pre x post s i
    obtain ⟨s2, e2, i2⟩ := forL_thru enc I h post (pre ++ [x]) s1 i1
    refine ⟨s2, ?_, by rw [List.append_assoc] at i2; exact i2⟩
    show (f (enc x) >>= fun fl => match fl with | .nx => forL f (post.map enc) | .cnt => forL f (post.map enc) | .brk => pure .nx | .ret r => pure (.ret r)) s = _
    rw [bindq, e1]
    exact e2
theorem enumD_map (enc : A → D) : ∀ (xs : List A) (k : Nat), enumD k (xs.map enc) = (xs.zipIdx k).map fun p => .tup [.int p.2, enc p.1]
  | [], _ => rfl
  | x :: xs, k => by
    show D.tup [.int k, enc x] :: enumD (k + 1) (xs.map enc) = _
    rw [enumD_map enc xs (k + 1)]
    rfl
/-- .. over enumerate(xs) -/
theorem forL_enum {f : D → M Fl} (enc : A → D) (I : List A → List A → Sta → Prop) (h : ∀ pre x post s, I pre (x :: post) s → ∃ s', f (.tup [.int (pre.length : Nat), enc x]) s = .ok .nx s' ∧ I (pre ++ [x]) post s')
    (xs : List A) (s : Sta) (i : I [] xs s) : ∃ s', forL f (enumD 0 (xs.map enc)) s = .ok .nx s' ∧ I xs [] s' := by
  have key : ∀ (post pre : List A) (s : Sta), I pre post s → ∃ s', forL f (enumD pre.length (post.map enc)) s = .ok .nx s' ∧ I (pre ++ post) [] s' := by
    intro post
    induction post with
    | nil => intro pre s i; exact ⟨s, rfl, by rw [List.append_nil]; exact i⟩
    | cons x post ih =>
      intro pre s i
      obtain ⟨s1, e1, i1⟩ := h pre x post s i
      obtain ⟨s2, e2, i2⟩ := ih (pre ++ [x]) s1 i1
      refine ⟨s2, ?_, by rw [List.append_assoc] at i2; exact i2⟩
      show (f (.tup [.int pre.length, enc x]) >>= fun fl => match fl with | .nx => forL f (enumD (pre.length + 1) (post.map enc)) | .cnt => forL f (enumD (pre.length + 1) (post.map enc)) | .brk => pure .nx | .ret r => pure (.ret r)) s = _
      rw [bindq, e1]
      rw [List.length_append] at e2
      exact e2
  exact key xs [] s i
/-- .. or is left by a return -/
theorem forL_ret {f : D → M Fl} (enc : A → D) (I : List A → List A → Sta → Prop) (Q : R → Sta → Prop) (h : ∀ pre x post s, I pre (x :: post) s → ∃ fl s', f (enc x) s = .ok fl s' ∧ ((fl = .nx ∧ I (pre ++ [x]) post s') ∨ ∃ r, fl = .ret r ∧ Q r s')) :
    ∀ (post pre : List A) (s : Sta), I pre post s → ∃ fl s', forL f (post.map enc) s = .ok fl s' ∧ ((fl = .nx ∧ I (pre ++ post) [] s') ∨ ∃ r, fl = .ret r ∧ Q r s')
  | [], pre, s, i => ⟨.nx, s, rfl, .inl ⟨rfl, by rw [List.append_nil]; exact i⟩⟩
  | x :: post, pre, s, i => by
    obtain ⟨fl, s1, e1, q⟩ := h pre x post s i
    have un : forL f ((x :: post).map enc) s = (f (enc x) >>= fun fl => match fl with | .nx => forL f (post.map enc) | .cnt => forL f (post.map enc) | .brk => pure .nx | .ret r => pure (.ret r)) s := rfl
    rw [un, bindq, e1]
    rcases q with ⟨rfl, i1⟩ | ⟨r, rfl, q⟩
    · obtain ⟨fl2, s2, e2, q2⟩ := forL_ret enc I Q h post (pre ++ [x]) s1 i1
      refine ⟨fl2, s2, e2, ?_⟩
      rw [List.append_assoc] at q2
      exact q2
    · exact ⟨_, s1, rfl, .inr ⟨r, rfl, q⟩⟩
/-- .. over enumerate(xs) -/
theorem forL_enumR {f : D → M Fl} (enc : A → D) (I : List A → List A → Sta → Prop) (Q : R → Sta → Prop) (h : ∀ pre x post s, I pre (x :: post) s → ∃ fl s', f (.tup [.int (pre.length : Nat), enc x]) s = .ok fl s' ∧ ((fl = .nx ∧ I (pre ++ [x]) post s') ∨ ∃ r, fl = .ret r ∧ Q r s'))
    (xs : List A) (s : Sta) (i : I [] xs s) : ∃ fl s', forL f (enumD 0 (xs.map enc)) s = .ok fl s' ∧ ((fl = .nx ∧ I xs [] s') ∨ ∃ r, fl = .ret r ∧ Q r s') := by
  have key : ∀ (post pre : List A) (s : Sta), I pre post s → ∃ fl s', forL f (enumD pre.length (post.map enc)) s = .ok fl s' ∧ ((fl = .nx ∧ I (pre ++ post) [] s') ∨ ∃ r, fl = .ret r ∧ Q r s') := by
    intro post
    induction post with
    | nil => intro pre s i; exact ⟨.nx, s, rfl, .inl ⟨rfl, by rw [List.append_nil]; exact i⟩⟩
    | cons x post ih =>
      intro pre s i
      obtain ⟨fl, s1, e1, q⟩ := h pre x post s i
      have un : forL f (enumD pre.length ((x :: post).map enc)) s = (f (.tup [.int pre.length, enc x]) >>= fun fl => match fl with | .nx => forL f (enumD (pre.length + 1) (post.map enc)) | .cnt => forL f (enumD (pre.length + 1) (post.map enc)) | .brk => pure .nx | .ret r => pure (.ret r)) s := rfl
      rw [un, bindq, e1]
      rcases q with ⟨rfl, i1⟩ | ⟨r, rfl, q⟩
      · obtain ⟨fl2, s2, e2, q2⟩ := ih (pre ++ [x]) s1 i1
        rw [List.append_assoc] at q2
        rw [List.length_append] at e2
        exact ⟨fl2, s2, e2, q2⟩
      · exact ⟨_, s1, rfl, .inr ⟨r, rfl, q⟩⟩
  exact key xs [] s i
/-- a comprehension's list -/
theorem lcL_thru {f : D → M (Option D)} (enc : A → D) (I : List A → List A → List D → Sta → Prop) (h : ∀ pre x post acc s, I pre (x :: post) acc s → ∃ o s', f (enc x) s = .ok o s' ∧ acc.length < LIM ∧ I (pre ++ [x]) post (match o with | some d => acc ++ [d] | none => acc) s') :
    ∀ (post pre : List A) (acc : List D) (s : Sta), I pre post acc s → ∃ out s', lcL f (post.map enc) acc s = .ok out s' ∧ I (pre ++ post) [] out s'
  | [], pre, acc, s, i => ⟨acc, s, rfl, by rw [List.append_nil]; exact i⟩
  | x :: post, pre, acc, s, i => by
    obtain ⟨o, s1, e1, hl, i1⟩ := h pre x post acc s i
    have un : lcL f ((x :: post).map enc) acc s = (f (enc x) >>= fun o => match o with | none => lcL f (post.map enc) acc | some d => if acc.length < LIM then lcL f (post.map enc) (acc ++ [d]) else M.bad) s := rfl
    rw [un, bindq, e1]
    cases o with
    | none =>
      obtain ⟨out, s2, e2, i2⟩ := lcL_thru enc I h post (pre ++ [x]) acc s1 i1
      rw [List.append_assoc] at i2
      exact ⟨out, s2, e2, i2⟩
    | some d =>
      obtain ⟨out, s2, e2, i2⟩ := lcL_thru enc I h post (pre ++ [x]) (acc ++ [d]) s1 i1
      rw [List.append_assoc] at i2
      refine ⟨out, s2, ?_, i2⟩
      show (if acc.length < LIM then lcL f (post.map enc) (acc ++ [d]) else M.bad : M (List D)) s1 = _
      rw [if_pos hl]
      exact e2
/-- .. where each item is by itself -/
theorem lcL_map {f : D → M (Option D)} (enc : A → D) (F : A → Option D) (s : Sta) (xs : List A) (h : ∀ x ∈ xs, f (enc x) s = .ok (F x) s) (hl : xs.length ≤ LIM) : lcL f (xs.map enc) [] s = .ok (xs.filterMap F) s := by
  obtain ⟨out, s', e, i, rfl⟩ := lcL_thru enc (fun pre post acc s1 => (acc = pre.filterMap F ∧ pre ++ post = xs) ∧ s1 = s) (fun pre x post acc s1 ⟨⟨h1, h2⟩, h3⟩ => by
    subst h3
    refine ⟨F x, s1, h x (by rw [← h2]; simp), ?_, ⟨?_, by rw [List.append_assoc]; exact h2⟩, rfl⟩
    · have a : acc.length ≤ pre.length := by rw [h1]; exact List.length_filterMap_le _ _
      have b : pre.length < xs.length := by rw [← h2]; simp
      omega
    · rw [List.filterMap_append, h1]
      cases q : F x <;> simp [q]) xs [] [] s ⟨⟨rfl, rfl⟩, rfl⟩
  rw [e]
  rw [i.1]
  rfl
theorem lcL_all {f : D → M (Option D)} (enc : A → D) (F : A → D) (s : Sta) (xs : List A) (h : ∀ x ∈ xs, f (enc x) s = .ok (some (F x)) s) (hl : xs.length ≤ LIM) : lcL f (xs.map enc) [] s = .ok (xs.map F) s := by
  rw [lcL_map enc (fun x => some (F x)) s xs h hl, List.filterMap_eq_map']
theorem boAll_fz : ∀ ds : List D, boAll (ds.map R.fz) = []
  | [] => rfl
  | _ :: ds => boAll_fz ds
theorem keepAll_fz : ∀ ds : List D, keepAll (ds.map R.fz) = some ds
  | [] => rfl
  | d :: ds => by
    show ((some d : Option D).bind fun d => (keepAll (ds.map R.fz)).map (d :: ·)) = _
    rw [keepAll_fz ds]
    rfl
theorem dcL_thru {f : D → M (Key × D)} (enc : A → D) (I : List A → List A → List (Key × D) → Sta → Prop) (h : ∀ pre x post acc s, I pre (x :: post) acc s → ∃ k v s', f (enc x) s = .ok (k, v) s' ∧ acc.length < LIM ∧ I (pre ++ [x]) post (dput acc k v) s') :
    ∀ (post pre : List A) (acc : List (Key × D)) (s : Sta), I pre post acc s → ∃ out s', dcL f (post.map enc) acc s = .ok out s' ∧ I (pre ++ post) [] out s'
  | [], pre, acc, s, i => ⟨acc, s, rfl, by rw [List.append_nil]; exact i⟩
  | x :: post, pre, acc, s, i => by
    obtain ⟨k, v, s1, e1, hl, i1⟩ := h pre x post acc s i
    have un : dcL f ((x :: post).map enc) acc s = (f (enc x) >>= fun q => match q with | (k, v) => if acc.length < LIM then dcL f (post.map enc) (dput acc k v) else M.bad) s := rfl
    rw [un, bindq, e1]
    obtain ⟨out, s2, e2, i2⟩ := dcL_thru enc I h post (pre ++ [x]) (dput acc k v) s1 i1
    rw [List.append_assoc] at i2
    refine ⟨out, s2, ?_, i2⟩
    show (if acc.length < LIM then dcL f (post.map enc) (dput acc k v) else M.bad : M (List (Key × D))) s1 = _
    rw [if_pos hl]
    exact e2
end
theorem rq {text : List CF} {wf n j : Nat} {F : CF} {a : List Slot} (h : text[j]? = some F) : run0 text wf (n + 1) j a = (runF ⟨run0 text wf n, mdOf text, vaOf text, wf⟩ F a).nox := by
  conv => lhs; unfold run0
  rw [h]
/-! pieces, places, what is equal -/
section
variable {α : Type}
theorem cut_to (xs : List α) (k : Nat) : cut xs none (some (k : Int)) = xs.take k := by
  unfold cut
  rw [HT.sIx_nat]
  show (xs.drop 0).take (min k xs.length - 0) = xs.take k
  rw [List.drop_zero, Nat.sub_zero]
  by_cases h : k ≤ xs.length
  · rw [Nat.min_eq_left h]
  · rw [Nat.min_eq_right (by omega), List.take_length, List.take_of_length_le (by omega)]
theorem cut_from (xs : List α) (k : Nat) : cut xs (some (k : Int)) none = xs.drop k := by
  unfold cut
  rw [HT.sIx_nat]
  show (xs.drop (min k xs.length)).take (xs.length - min k xs.length) = xs.drop k
  by_cases h : k ≤ xs.length
  · rw [Nat.min_eq_left h, List.take_of_length_le (by rw [List.length_drop]; exact Nat.le_refl _)]
  · rw [Nat.min_eq_right (by omega), List.drop_length, List.drop_of_length_le (by omega), Nat.sub_self]
    rfl
theorem atI_nat {xs : List α} {k : Nat} {x : α} (h : xs[k]? = some x) : atI xs (k : Int) = some x := by
  have l := (List.getElem?_eq_some_iff.mp h).1
  unfold atI ixN
  rw [if_pos (by omega), if_pos (by omega)]
  show xs[(k : Int).toNat]? = _
  rw [Int.toNat_natCast]
  exact h
theorem anyEq_str {x : Str} {ys : List Str} : anyEq (.str x) (ys.map .str) = some (decide (x ∈ ys)) := by
  have fl : (flatD (.str x) && (ys.map D.str).all flatD) = true := by
    rw [List.all_map]
    show (true && ys.all fun _ => true) = true
    simp
  unfold anyEq
  rw [if_pos fl, List.any_map]
  congr 1
  rw [Bool.eq_iff_iff, List.any_eq_true, decide_eq_true_eq]
  constructor
  · rintro ⟨y, m, h⟩
    have h : (y == x) = true := h
    rw [eq_of_beq h] at m
    exact m
  · intro m
    exact ⟨x, m, beq_self_eq_true x⟩
end
theorem cut_from1 {α : Type} (xs : List α) (k : Nat) : cut xs (some ((k : Int) + 1)) none = xs.drop (k + 1) := cut_from xs (k + 1)
theorem zip_map {A B : Type} (a : A → D) (b : B → D) : ∀ (xs : List A) (ys : List B), zipD (xs.map a) (ys.map b) = (xs.zip ys).map fun q => .tup [a q.1, b q.2]
  | [], _ => rfl
  | _ :: _, [] => rfl
  | x :: xs, y :: ys => by
    show D.tup [a x, b y] :: zipD (xs.map a) (ys.map b) = _
    rw [zip_map a b xs ys]
    rfl
theorem drop_pre1 {α β : Type} {enc : α → β} {pre post xs : List α} {x : α} (h : pre ++ x :: post = xs) : (xs.map enc).drop (pre.length + 1) = post.map enc := by
  have h2 : (pre ++ [x]) ++ post = xs := by rw [← h]; simp
  rw [← h2, List.map_append]
  have e : pre.length + 1 = ((pre ++ [x]).map enc).length := by simp
  rw [e, List.drop_left]
theorem appI_ok {xs : List D} {v : D} (h : xs.length < LIM) : appI v (.lst xs) = some (.lst (xs ++ [v])) := by
  show (if xs.length < LIM then some (D.lst (xs ++ [v])) else none) = _
  exact if_pos h
/-- a text or nothing -/
def oD : Option Str → D
  | none => .non
  | some x => .str x
theorem flat_oD (o : Option Str) : flatD (oD o) = true := by cases o <;> rfl
theorem eq_oD (o : Option Str) (x : Str) : eqN 0 (oD o) (.str x) = (o == some x) := by
  cases o with
  | none => rfl
  | some y =>
    show (y == x) = (some y == some x)
    rfl
theorem flat_oDs (x : Str) (L : List (Option Str)) : (flatD (.str x) && (L.map oD).all flatD) = true := by
  rw [List.all_map]
  show (true && L.all (flatD ∘ oD)) = true
  simp [flat_oD]
theorem findIdx_str {x : Str} : ∀ {ws : List Str}, x ∈ ws → (ws.map D.str).findIdx? (fun y => eqN 0 y (.str x)) = some (ws.idxOf x)
  | [], h => by cases h
  | w :: ws, h => by
    rw [List.map_cons, List.findIdx?_cons, List.idxOf_cons]
    have e : eqN 0 (.str w) (.str x) = (w == x) := rfl
    rw [e]
    by_cases q : w = x
    · subst q; simp
    · have : (w == x) = false := beq_eq_false_iff_ne.mpr q
      have m : x ∈ ws := by
        rcases List.mem_cons.mp h with z | z
        · exact absurd z.symm q
        · exact z
      rw [this, findIdx_str m]
      rfl
theorem findEq_str {x : Str} {ws : List Str} (h : x ∈ ws) : findEq (.str x) (ws.map .str) = some (ws.idxOf x) := by
  have fl : (flatD (.str x) && (ws.map D.str).all flatD) = true := by
    rw [List.all_map]
    show (true && ws.all fun _ => true) = true
    simp
  unfold findEq
  rw [if_pos fl, findIdx_str h]
theorem countEq_oD {x : Str} {L : List (Option Str)} : countEq (.str x) (L.map oD) = some (L.count (some x)) := by
  unfold countEq
  rw [if_pos (flat_oDs x L), List.countP_map]
  congr 1
  unfold List.count
  refine List.countP_congr fun o _ => ?_
  show eqN 0 (oD o) (.str x) = true ↔ _
  rw [eq_oD]
theorem anyEq_oD {x : Str} {L : List (Option Str)} : anyEq (.str x) (L.map oD) = some (decide (some x ∈ L)) := by
  unfold anyEq
  rw [if_pos (flat_oDs x L), List.any_map]
  congr 1
  rw [Bool.eq_iff_iff, List.any_eq_true, decide_eq_true_eq]
  constructor
  · rintro ⟨o, m, h⟩
    have h : eqN 0 (oD o) (.str x) = true := h
    rw [eq_oD] at h
    rw [eq_of_beq h] at m
    exact m
  · intro m
    exact ⟨some x, m, by show eqN 0 (oD (some x)) (.str x) = true; rw [eq_oD]; exact beq_self_eq_true _⟩
theorem take_pre {α β : Type} {enc : α → β} {pre post xs : List α} (h : pre ++ post = xs) : (xs.map enc).take pre.length = pre.map enc := by
  rw [← h, List.map_append]
  have e : pre.length = (pre.map enc).length := (List.length_map _).symm
  rw [e, List.take_left]
theorem drop_pre {α β : Type} {enc : α → β} {pre post xs : List α} (h : pre ++ post = xs) : (xs.map enc).drop pre.length = post.map enc := by
  rw [← h, List.map_append]
  have e : pre.length = (pre.map enc).length := (List.length_map _).symm
  rw [e, List.drop_left]
theorem u_countL {xs : List D} {x : D} {n : Nat} (h : countEq x xs = some n) : evBI .count [.lst xs, x] = .fz (.int n) := by
  show (match countEq x xs with | some n => BR.fz (.int n) | none => .bad) = _
  rw [h]
theorem u_countT {xs : List D} {x : D} {n : Nat} (h : countEq x xs = some n) : evBI .count [.tup xs, x] = .fz (.int n) := by
  show (match countEq x xs with | some n => BR.fz (.int n) | none => .bad) = _
  rw [h]
theorem u_indexT {xs : List D} {x : D} {n : Nat} (h : findEq x xs = some n) : evBI .index [.tup xs, x] = .fz (.int n) := by
  show (match findEq x xs with | some n => BR.fz (.int n) | none => .bad) = _
  rw [h]
theorem u_indexL {xs : List D} {x : D} {n : Nat} (h : findEq x xs = some n) : evBI .index [.lst xs, x] = .fz (.int n) := by
  show (match findEq x xs with | some n => BR.fz (.int n) | none => .bad) = _
  rw [h]
theorem eqD_oD (o : Option Str) (x : Str) : eqD (oD o) (.str x) = some (o == some x) := by
  cases o with
  | none => rfl
  | some y => rfl
theorem keep_oD (o : Option Str) : keepR (.fz (oD o)) = some (oD o) := rfl
theorem lst_ne {xs : List D} (o : okN 60 (.lst xs) = true) : eqD (.lst xs) (.lst []) = some xs.isEmpty := by
  unfold eqD
  rw [if_neg (by show ¬ (false = true); decide), if_pos ⟨o, rfl⟩]
  cases xs <;> rfl
/-! dicts from texts to numbers -/
def lk {β : Type} : List (Str × β) → Str → Option β
  | [], _ => none
  | (y, v) :: r, x => if y = x then some v else lk r x
def up {β : Type} (f : List (Str × β)) (x : Str) (v : β) : List (Str × β) := f.map fun p => if p.1 = x then (p.1, v) else p
def kvD {β : Type} (enc : β → D) (f : List (Str × β)) : List (Key × D) := f.map fun p => (.inr p.1, enc p.2)
section
variable {β : Type} {enc : β → D} {f : List (Str × β)} {x y : Str} {v : β}
theorem dget_kv : dget (kvD enc f) (.inr x) = (lk f x).map enc := by
  induction f with
  | nil => rfl
  | cons p f ih =>
    obtain ⟨y, w⟩ := p
    show (if (Sum.inr y : Key) = .inr x then some (enc w) else dget (kvD enc f) (.inr x)) = (if y = x then some w else lk f x).map enc
    by_cases h : y = x
    · rw [if_pos h, if_pos (by rw [h])]; rfl
    · rw [if_neg h, if_neg (fun z => h (Sum.inr.inj z)), ih]
theorem dput_old (h : (lk f x).isSome = true) : dput (kvD enc f) (.inr x) (enc v) = kvD enc (up f x v) := by
  unfold dput
  rw [dget_kv, Option.isSome_map, if_pos h]
  unfold kvD up
  rw [List.map_map, List.map_map]
  refine List.map_congr_left fun p _ => ?_
  show (if (Sum.inr p.1 : Key) = .inr x then (Sum.inr p.1, enc v) else (Sum.inr p.1, enc p.2)) = _
  by_cases q : p.1 = x
  · simp [q]
  · simp [q]
theorem dput_new (h : lk f x = none) : dput (kvD enc f) (.inr x) (enc v) = kvD enc (f ++ [(x, v)]) := by
  unfold dput
  rw [dget_kv, h]
  simp [kvD]
theorem lk_none (h : x ∉ f.map (·.1)) : lk f x = none := by
  induction f with
  | nil => rfl
  | cons p f ih =>
    obtain ⟨y, w⟩ := p
    show (if y = x then some w else lk f x) = none
    have n : y ≠ x := fun z => h (by simp [z])
    rw [if_neg n, ih fun z => h (List.mem_cons_of_mem _ z)]
theorem lk_some (h : x ∈ f.map (·.1)) : ∃ v, lk f x = some v ∧ (x, v) ∈ f := by
  induction f with
  | nil => cases h
  | cons p f ih =>
    obtain ⟨y, w⟩ := p
    by_cases q : y = x
    · subst q
      exact ⟨w, by unfold lk; rw [if_pos rfl], List.mem_cons_self⟩
    · rcases List.mem_cons.mp h with z | z
      · exact absurd z.symm q
      · obtain ⟨v, e, m⟩ := ih z
        exact ⟨v, by unfold lk; rw [if_neg q]; exact e, List.mem_cons_of_mem _ m⟩
theorem up_keys : (up f x v).map (·.1) = f.map (·.1) := by
  unfold up
  rw [List.map_map]
  refine List.map_congr_left fun p _ => ?_
  show (if p.1 = x then (p.1, v) else p).1 = p.1
  split <;> rfl
theorem lk_up : lk (up f x v) y = if y = x then (lk f x).map (fun _ => v) else lk f y := by
  induction f with
  | nil => show none = _; split <;> rfl
  | cons p f ih =>
    obtain ⟨z, w⟩ := p
    by_cases q : z = x
    · subst q
      have e : up ((z, w) :: f) z v = (z, v) :: up f z v := by unfold up; simp
      rw [e]
      by_cases r : y = z
      · subst r; simp [lk]
      · have r' : ¬ z = y := fun h => r h.symm
        simp only [lk, if_neg r', if_neg r, ih]
    · have e : up ((z, w) :: f) x v = (z, w) :: up f x v := by unfold up; simp [q]
      rw [e]
      by_cases r : z = y
      · subst r
        simp [lk, q]
      · simp only [lk, if_neg r, ih]
        by_cases t : y = x
        · subst t; simp [lk, q]
        · simp [t]
theorem kv_len : (kvD enc f).length = f.length := List.length_map _
end
end Mi
namespace Mi
open PySem L2
theorem dcL_kv {A β : Type} {f : D → M (Key × D)} (enc : A → D) (key : A → Str) (val : A → β) (eb : β → D) (s : Sta) (xs : List A) (nd : (xs.map key).Nodup) (hl : xs.length ≤ LIM) (h : ∀ x ∈ xs, f (enc x) s = .ok (.inr (key x), eb (val x)) s) :
    dcL f (xs.map enc) [] s = .ok (kvD eb (xs.map fun x => (key x, val x))) s := by
  obtain ⟨out, s', e, ⟨i1, i2⟩, rfl⟩ := dcL_thru enc (fun pre post acc s1 => (pre ++ post = xs ∧ acc = kvD eb (pre.map fun x => (key x, val x))) ∧ s1 = s) (fun pre x post acc s1 ⟨⟨h1, h2⟩, h3⟩ => by
    subst h3
    refine ⟨_, _, s1, h x (by rw [← h1]; simp), ?_, ⟨by rw [List.append_assoc]; exact h1, ?_⟩, rfl⟩
    · rw [h2, kv_len, List.length_map]
      have : pre.length < xs.length := by rw [← h1]; simp
      omega
    · have nk : lk (pre.map fun x => (key x, val x)) (key x) = none := lk_none (by
        rw [List.map_map]
        show key x ∉ pre.map key
        have := nd
        rw [← h1, List.map_append, List.map_cons] at this
        exact fun m => (List.nodup_append.mp this).2.2 _ m _ List.mem_cons_self rfl)
      rw [h2, dput_new nk, List.map_append]
      rfl) xs [] [] s ⟨⟨rfl, rfl⟩, rfl⟩
  rw [e, i2]
  rfl
end Mi
namespace Mi


end Mi
local macro_rules | `(tactic| simp! only [$l,*]) => `(tactic| simp only [Mi.runF, Mi.evB, Mi.evE_var, Mi.evE_bor, Mi.evE_mv, Mi.evE_cst, Mi.evE_gcst, Mi.evE_tup, Mi.evE_lst, Mi.evE_dic, Mi.evE_bi, Mi.evE_bm, Mi.evE_call, Mi.evE_prop, Mi.evE_meth, Mi.evE_mk, Mi.evE_cmeth, Mi.evE_lc, Mi.evE_dc, Mi.evE_pop, Mi.evE_and, Mi.evE_or, Mi.evE_not, Mi.evE_ite, Mi.evE_chain, Mi.evE_mkv, Mi.evE_fld, Mi.evS_expr, Mi.evS_asg, Mi.evS_asgT, Mi.evS_par2, Mi.evS_setI, Mi.evS_subI, Mi.evS_app, Mi.evS_setF, Mi.evS_ite, Mi.evS_for, Mi.evS_ret, Mi.evS_retN, Mi.evS_pass, Mi.evS_brk, Mi.evS_cnt, Mi.evS_yld, Mi.evS_mseq, Mi.evA, Mi.evT_tt, Mi.evT_val, Mi.evT_not, Mi.evT_and, Mi.evT_or, Mi.evI, Mi.bindq, Mi.pureq, Mi.badq, Mi.optq, Mi.getq, Mi.setq, Mi.keepq, Mi.tagq, List.getElem?_cons_zero, List.getElem?_cons_succ, Mi.readsq, Mi.rdAll, Mi.rdR, Mi.ofBR1, Mi.ofBR2, Mi.b_some, Mi.o_some, Mi.nox1, Mi.isT1, Mi.isT2, Mi.isI1, Mi.isB1, Mi.tru1, Mi.u_isi, Mi.u_lenT, Mi.u_lenL, Mi.u_lenS, Mi.u_lenX, Mi.u_idxT, Mi.u_idxL, Mi.u_idxS, Mi.u_idxD, Mi.u_sl01T, Mi.u_sl10T, Mi.u_sl01L, Mi.u_sl10L, Mi.u_add, Mi.u_addL, Mi.u_sub, Mi.u_mul, Mi.u_fdiv, Mi.u_mod, Mi.u_int, Mi.u_tupT, Mi.u_tupL, Mi.u_tupD, Mi.u_lstT, Mi.u_lstL, Mi.u_vals, Mi.u_cm, Mi.v_eq, Mi.v_ne, Mi.v_lt, Mi.v_le, Mi.v_gt, Mi.v_ge, Mi.v_isN, Mi.v_isN1, Mi.v_isN2, Mi.v_notN, Mi.v_notN1, Mi.v_notN2, Mi.v_inT, Mi.v_inL, Mi.v_inD, Mi.v_niT, Mi.v_niL, Mi.v_niD, Mi.eqii, Mi.eqss, Mi.eqsn, Mi.eqns, Mi.eqnn, List.cons_append, List.nil_append, Option.bind_some, Option.map_some, List.length_cons, List.length_nil, List.set_cons_zero, List.set_cons_succ, Bool.not_true, Bool.not_false, if_true, if_false, reduceIte, Bool.false_eq_true, Mi.keepAll, Mi.keepR, Mi.maskS, List.take_succ_cons, List.take_zero, List.take_nil, List.replicate, Mi.doCall, Mi.boAll, Mi.toSlots, Mi.backS, Mi.bindM, Mi.updI, Mi.ownM, Mi.asgTg, Mi.asgAll, Mi.wipeM, Mi.blk, Mi.wipeS, Mi.insM, Mi.ldF, Mi.insF, List.nodup_nil, List.nodup_cons, List.not_mem_nil, not_false_eq_true, and_true, true_and, List.foldr_cons, List.foldr_nil, List.all_cons, List.all_nil, Mi.notOw, Bool.and_true, Bool.true_and, Mi.isIns, beq_self_eq_true, Mi.putI, Mi.keyOf, List.getD_cons_zero, List.getD_cons_succ, Mi.subM, Mi.putFl, Nat.reduceAdd, Nat.reduceSub, Nat.reduceLT, Nat.reduceLeDiff, Nat.reduceEqDiff, Option.isSome_some, Option.isSome_none, decide_true, decide_false, Mi.tag, Mi.iterD, Mi.lstD, Mi.tag, Mi.evBM, Mi.bmOk, Mi.intOf, Mi.intAt, Mi.dicInt, Mi.yldM, Mi.noSeq, Mi.popM, Mi.doMk, Nat.zero_le, Bool.true_or, Bool.or_true, Bool.false_or, Bool.or_false, Nat.reduceBEq, $l,*])
local macro_rules | `(tactic| dsimp! only [$l,*]) => `(tactic| simp only [Mi.runF, Mi.evB, Mi.evE_var, Mi.evE_bor, Mi.evE_mv, Mi.evE_cst, Mi.evE_gcst, Mi.evE_tup, Mi.evE_lst, Mi.evE_dic, Mi.evE_bi, Mi.evE_bm, Mi.evE_prop, Mi.evE_meth, Mi.evE_mk, Mi.evE_cmeth, Mi.evE_lc, Mi.evE_dc, Mi.evE_pop, Mi.evE_and, Mi.evE_or, Mi.evE_not, Mi.evE_ite, Mi.evE_chain, Mi.evE_mkv, Mi.evE_fld, Mi.evS_expr, Mi.evS_asg, Mi.evS_asgT, Mi.evS_par2, Mi.evS_setI, Mi.evS_subI, Mi.evS_app, Mi.evS_setF, Mi.evS_ite, Mi.evS_for, Mi.evS_ret, Mi.evS_retN, Mi.evS_pass, Mi.evS_brk, Mi.evS_cnt, Mi.evS_yld, Mi.evS_mseq, Mi.evA, Mi.evT_tt, Mi.evT_val, Mi.evT_not, Mi.evT_and, Mi.evT_or, Mi.evI, Mi.bindq, Mi.pureq, Mi.badq, Mi.optq, Mi.getq, Mi.setq, Mi.keepq, Mi.tagq, List.getElem?_cons_zero, List.getElem?_cons_succ, Mi.readsq, Mi.rdAll, Mi.rdR, Mi.ofBR1, Mi.ofBR2, Mi.b_some, Mi.o_some, Mi.nox1, Mi.isT1, Mi.isT2, Mi.isI1, Mi.isB1, Mi.tru1, Mi.u_isi, Mi.u_lenT, Mi.u_lenL, Mi.u_lenS, Mi.u_lenX, Mi.u_idxT, Mi.u_idxL, Mi.u_idxS, Mi.u_idxD, Mi.u_sl01T, Mi.u_sl10T, Mi.u_sl01L, Mi.u_sl10L, Mi.u_add, Mi.u_addL, Mi.u_sub, Mi.u_mul, Mi.u_fdiv, Mi.u_mod, Mi.u_int, Mi.u_tupT, Mi.u_tupL, Mi.u_tupD, Mi.u_lstT, Mi.u_lstL, Mi.u_vals, Mi.u_cm, Mi.v_eq, Mi.v_ne, Mi.v_lt, Mi.v_le, Mi.v_gt, Mi.v_ge, Mi.v_isN, Mi.v_isN1, Mi.v_isN2, Mi.v_notN, Mi.v_notN1, Mi.v_notN2, Mi.v_inT, Mi.v_inL, Mi.v_inD, Mi.v_niT, Mi.v_niL, Mi.v_niD, Mi.eqii, Mi.eqss, Mi.eqsn, Mi.eqns, Mi.eqnn, List.cons_append, List.nil_append, Option.bind_some, Option.map_some, List.length_cons, List.length_nil, List.set_cons_zero, List.set_cons_succ, Bool.not_true, Bool.not_false, if_true, if_false, reduceIte, Bool.false_eq_true, Mi.keepAll, Mi.keepR, Mi.maskS, List.take_succ_cons, List.take_zero, List.take_nil, List.replicate, Mi.doCall, Mi.boAll, Mi.toSlots, Mi.backS, Mi.bindM, Mi.updI, Mi.ownM, Mi.asgTg, Mi.asgAll, Mi.wipeM, Mi.blk, Mi.wipeS, Mi.insM, Mi.ldF, Mi.insF, List.nodup_nil, List.nodup_cons, List.not_mem_nil, not_false_eq_true, and_true, true_and, List.foldr_cons, List.foldr_nil, List.all_cons, List.all_nil, Mi.notOw, Bool.and_true, Bool.true_and, Mi.isIns, beq_self_eq_true, Mi.putI, Mi.keyOf, List.getD_cons_zero, List.getD_cons_succ, Mi.subM, Mi.putFl, Nat.reduceAdd, Nat.reduceSub, Nat.reduceLT, Nat.reduceLeDiff, Nat.reduceEqDiff, Option.isSome_some, Option.isSome_none, decide_true, decide_false, Mi.tag, Mi.iterD, Mi.lstD, Mi.tag, Mi.evBM, Mi.bmOk, Mi.intOf, Mi.intAt, Mi.dicInt, Mi.yldM, Mi.noSeq, Mi.popM, Mi.doMk, Nat.zero_le, Bool.true_or, Bool.or_true, Bool.false_or, Bool.or_false, Nat.reduceBEq, $l,*])

set_option Elab.async false
set_option linter.all false
set_option maxRecDepth 100000
set_option maxHeartbeats 4000000
/-! the text of the law's program, and that it fits -/
namespace MiP
open PySem PySem.Spec L2 PyProof.Rows Mi
def stA (i : Nat) : Stmt := (PySem.W.OpenLaw.row PySem.Challenge.rw_waitmoves_k19_whole_faults_that_are_mend).prog.main.body.getD i (.Pass ⟨0, 0, 0, 0⟩)
def stM (i k : Nat) : Stmt := inClass (stA i) k
-- 0 is_integer: ['value', 'low', 'high']
def b0 : CB := (.cons (.ret (.and (.bi (.isinst [.int]) (.cons (.var 0) .nil)) (.and (.not (.bi (.isinst [.bool]) (.cons (.var 0) .nil))) (.chain .le .le (.var 1) (.var 0) (.var 2))))) .nil)
def c0 : CF := ⟨[false, false, false], false, 3, b0⟩
-- 1 is_name: ['value', 'letter']
def b1 : CB := (.cons (.ite (.or (.not (.val (.bi (.isinst [.str]) (.cons (.var 0) .nil)))) (.not (.val (.chain .le .le (.cst (.int 1)) (.bi .len (.cons (.var 0) .nil)) (.gcst "MAX_LETTERS" (.int 8)))))) (.cons (.ret (.cst (.bl false))) .nil) .nil) (.cons (.ret (.bi .all (.cons (.lc (.val (.var 0)) (.nm 1) .tt (.bi (.cm .isin) (.cons (.var 1) (.cons (.gcst "LETTERS" (.str "abcdefghijklmnopqrstuvwxyz")) .nil))) [1]) .nil))) .nil))
def c1 : CF := ⟨[false], false, 2, b1⟩
-- 2 is_place: ['value', 'name', 'seats']
def b2 : CB := (.cons (.mseq 0 [1, 2] (.val (.bi (.isinst [.tup]) (.cons (.var 0) .nil))) (.cons (.ret (.and (.call 1 (.cons (.var 1) .nil)) (.call 0 (.cons (.var 2) (.cons (.cst (.int 0)) (.cons (.gcst "MAX_SEATS" (.int 9)) .nil)))))) .nil) (.cons (.ret (.cst (.bl false))) .nil)) .nil)
def c2 : CF := ⟨[false], false, 3, b2⟩
-- 3 House.__init__: ['self', 'places', 'known', 'index', 'place']
def b3_0 : CB := (.cons (.ite (.or (.val (.bi (.cm .eq) (.cons (.var 3) (.cons (.gcst "MAX_PLACES" (.int 8)) .nil)))) (.or (.not (.val (.call 2 (.cons (.var 4) .nil)))) (.val (.bi (.cm .isin) (.cons (.bi .idx (.cons (.var 4) (.cons (.cst (.int 0)) .nil))) (.cons (.bor 2) .nil)))))) (.cons .never .nil) .nil) (.cons (.setI 2 (.bi .idx (.cons (.var 4) (.cons (.cst (.int 0)) .nil))) (.bi .idx (.cons (.var 4) (.cons (.cst (.int 1)) .nil)))) .nil))
def b3 : CB := (.cons (.asg 2 true .dicE) (.cons (.forS (.tn [3, 4]) (.enum (.var 1)) b3_0) (.cons (.ite (.val (.bi (.cm .eq) (.cons (.var 1) (.cons (.tupE .nil) .nil)))) (.cons .never .nil) .nil) (.cons (.setF 0 0 0 (.var 1)) (.cons (.setF 0 0 1 (.mv 2)) .nil)))))
def c3 : CF := ⟨[true], true, 5, b3⟩
-- 4 House.single: ['cls', 'names', 'rows', 'name']
def b4 : CB := (.cons (.asg 2 false (.lc (.val (.var 1)) (.nm 3) .tt (.tupE (.cons (.var 3) (.cons (.cst (.int 1)) .nil))) [3])) (.cons (.ret (.mkv 0 0 3 (.star (.var 2) .nil))) .nil))
def c4 : CF := ⟨[false], true, 4, b4⟩
-- 5 House.places: ['self']
def b5 : CB := (.cons (.ret (.fld (.var 0) 0 0)) .nil)
def c5 : CF := ⟨[false], false, 1, b5⟩
-- 6 House.names: ['self']
def b6 : CB := (.cons (.ret (.bi .toTup (.cons (.fld (.var 0) 0 1) .nil))) .nil)
def c6 : CF := ⟨[false], false, 1, b6⟩
-- 7 House.check_place: ['self', 'name']
def b7 : CB := (.cons (.ite (.or (.not (.val (.bi (.isinst [.str]) (.cons (.var 1) .nil)))) (.val (.bi (.cm .notin) (.cons (.var 1) (.cons (.fld (.var 0) 0 1) .nil))))) (.cons .never .nil) .nil) .nil)
def c7 : CF := ⟨[false, false], false, 2, b7⟩
-- 8 House.seats_at: ['self', 'name']
def b8 : CB := (.cons (.expr (.meth (.var 0) 0 "check_place" 7 (.cons (.var 1) .nil))) (.cons (.ret (.bi .idx (.cons (.fld (.var 0) 0 1) (.cons (.var 1) .nil)))) .nil))
def c8 : CF := ⟨[false, false], false, 2, b8⟩
-- 9 House.with_seats: ['self', 'name', 'seats', 'rows', 'other', 'count']
def b9 : CB := (.cons (.expr (.meth (.var 0) 0 "check_place" 7 (.cons (.var 1) .nil))) (.cons (.ite (.not (.val (.call 0 (.cons (.var 2) (.cons (.cst (.int 0)) (.cons (.gcst "MAX_SEATS" (.int 9)) .nil)))))) (.cons .never .nil) .nil) (.cons (.asg 3 false (.lc (.val (.fld (.var 0) 0 0)) (.tn [4, 5]) .tt (.tupE (.cons (.var 4) (.cons (.ite (.val (.bi (.cm .eq) (.cons (.var 4) (.cons (.var 1) .nil)))) (.var 2) (.var 5)) .nil))) [4, 5])) (.cons (.ret (.mk 0 3 (.star (.var 3) .nil))) .nil))))
def c9 : CF := ⟨[false, false, false], false, 6, b9⟩
-- 10 House.check_wishes: ['self', 'wishes', 'index', 'wish']
def b10_0 : CB := (.cons (.ite (.or (.not (.val (.bi (.isinst [.str]) (.cons (.var 3) .nil)))) (.or (.val (.bi (.cm .notin) (.cons (.var 3) (.cons (.fld (.var 0) 0 1) .nil)))) (.val (.bi (.cm .isin) (.cons (.var 3) (.cons (.bi (.slc false true) (.cons (.var 1) (.cons (.var 2) .nil))) .nil)))))) (.cons .never .nil) .nil) .nil)
def b10 : CB := (.cons (.ite (.or (.not (.val (.bi (.isinst [.tup]) (.cons (.var 1) .nil)))) (.val (.bi (.cm .eq) (.cons (.var 1) (.cons (.tupE .nil) .nil))))) (.cons .never .nil) .nil) (.cons (.forS (.tn [2, 3]) (.enum (.var 1)) b10_0) .nil))
def c10 : CF := ⟨[false, false], false, 4, b10⟩
-- 11 House.is_person: ['self', 'value']
def b11 : CB := (.cons (.ite (.or (.not (.val (.bi (.isinst [.tup]) (.cons (.var 1) .nil)))) (.or (.val (.bi (.cm .ne) (.cons (.bi .len (.cons (.var 1) .nil)) (.cons (.cst (.int 2)) .nil)))) (.not (.val (.call 1 (.cons (.bi .idx (.cons (.var 1) (.cons (.cst (.int 0)) .nil))) .nil)))))) (.cons (.ret (.cst (.bl false))) .nil) .nil) (.cons (.ite .tt (.cons (.expr (.meth (.var 0) 0 "check_wishes" 10 (.cons (.bi .idx (.cons (.var 1) (.cons (.cst (.int 1)) .nil))) .nil))) .nil) .nil) (.cons (.ret (.cst (.bl true))) .nil)))
def c11 : CF := ⟨[false, false], false, 2, b11⟩
-- 12 House.check_people: ['self', 'people', 'index', 'person', 'one']
def b12_0 : CB := (.cons (.ite (.or (.val (.bi (.cm .eq) (.cons (.var 2) (.cons (.gcst "MAX_PEOPLE" (.int 12)) .nil)))) (.or (.not (.val (.meth (.var 0) 0 "is_person" 11 (.cons (.var 3) .nil)))) (.val (.bi (.cm .isin) (.cons (.bi .idx (.cons (.var 3) (.cons (.cst (.int 0)) .nil))) (.cons (.lc (.val (.bi (.slc false true) (.cons (.var 1) (.cons (.var 2) .nil)))) (.nm 4) .tt (.bi .idx (.cons (.var 4) (.cons (.cst (.int 0)) .nil))) [4]) .nil)))))) (.cons .never .nil) .nil) .nil)
def b12 : CB := (.cons (.ite (.not (.val (.bi (.isinst [.tup]) (.cons (.var 1) .nil)))) (.cons .never .nil) .nil) (.cons (.forS (.tn [2, 3]) (.enum (.var 1)) b12_0) .nil))
def c12 : CF := ⟨[false, false], false, 5, b12⟩
-- 13 rank_of: ['wishes', 'place']
def b13 : CB := (.cons (.ret (.ite (.val (.bi (.cm .isN) (.cons (.var 1) (.cons (.cst .non) .nil)))) (.bi .len (.cons (.var 0) .nil)) (.bm .index (.var 0) (.cons (.var 1) .nil)))) .nil)
def c13 : CF := ⟨[false, false], false, 2, b13⟩
-- 14 takings_of: ['house', 'people', 'free', 'name', 'wishes', 'chosen', 'wish', 'seats']
def b14_0 : CB := (.cons (.ite (.and (.val (.bi (.cm .gt) (.cons (.bi .idx (.cons (.bor 2) (.cons (.var 6) .nil))) (.cons (.cst (.int 0)) .nil)))) (.val (.bi (.cm .isN) (.cons (.var 5) (.cons (.cst .non) .nil))))) (.cons (.asg 5 false (.var 6)) (.cons (.subI 2 (.var 6) (.cst (.int 1))) .nil)) .nil) .nil)
def b14_1 : CB := (.cons (.asg 5 false (.cst .non)) (.cons (.forS (.nm 6) (.val (.var 4)) b14_0) (.cons (.yld (.tupE (.cons (.var 3) (.cons (.var 5) .nil)))) .nil)))
def b14 : CB := (.cons (.asg 2 true (.dc (.val (.prop (.var 0) 0 "places" 5)) (.tn [3, 7]) (.var 3) (.var 7) [3, 7])) (.cons (.forS (.tn [3, 4]) (.val (.var 1)) b14_1) .nil))
def c14 : CF := ⟨[false, false], false, 8, b14⟩
-- 15 choose: ['house', 'people', 'name', 'place']
def b15 : CB := (.cons (.expr (.meth (.var 0) 0 "check_people" 12 (.cons (.var 1) .nil))) (.cons (.ret (.dc (.gen 14 (.cons (.var 0) (.cons (.var 1) .nil))) (.tn [2, 3]) (.var 2) (.var 3) [2, 3])) .nil))
def c15 : CF := ⟨[false, false], false, 4, b15⟩
-- 16 free_of: ['house', 'places', 'name', 'seats']
def b16 : CB := (.cons (.ret (.dc (.val (.prop (.var 0) 0 "places" 5)) (.tn [2, 3]) (.var 2) (.bi .sub (.cons (.var 3) (.cons (.bm .count (.var 1) (.cons (.var 2) .nil)) .nil))) [2, 3])) .nil)
def c16 : CF := ⟨[false, false], false, 4, b16⟩
-- 17 check_list: ['house', 'people', 'places', 'index', 'place']
def b17_0 : CB := (.cons (.ite (.or (.val (.bi (.cm .eq) (.cons (.var 3) (.cons (.bi .len (.cons (.var 1) .nil)) .nil)))) (.and (.val (.bi (.cm .notN) (.cons (.var 4) (.cons (.cst .non) .nil)))) (.val (.bi (.cm .notin) (.cons (.var 4) (.cons (.bi .idx (.cons (.bi .idx (.cons (.var 1) (.cons (.var 3) .nil))) (.cons (.cst (.int 1)) .nil))) .nil)))))) (.cons .never .nil) .nil) (.cons (.ite (.and (.val (.bi (.cm .notN) (.cons (.var 4) (.cons (.cst .non) .nil)))) (.val (.bi (.cm .eq) (.cons (.bm .count (.bi (.slc false true) (.cons (.var 2) (.cons (.var 3) .nil))) (.cons (.var 4) .nil)) (.cons (.meth (.var 0) 0 "seats_at" 8 (.cons (.var 4) .nil)) .nil))))) (.cons .never .nil) .nil) .nil))
def b17 : CB := (.cons (.ite (.not (.val (.bi (.isinst [.tup]) (.cons (.var 2) .nil)))) (.cons .never .nil) .nil) (.cons (.forS (.tn [3, 4]) (.enum (.var 2)) b17_0) (.cons (.ite (.val (.bi (.cm .lt) (.cons (.bi .len (.cons (.var 2) .nil)) (.cons (.bi .len (.cons (.var 1) .nil)) .nil)))) (.cons .never .nil) .nil) .nil)))
def c17 : CF := ⟨[false, false, false], false, 5, b17⟩
-- 18 first_fault: ['house', 'people', 'places', 'free', 'turn', 'name', 'wishes', 'wish', 'later', 'other', 'place']
def b18_0 : CB := (.cons (.ite (.val (.bi (.cm .gt) (.cons (.bi .idx (.cons (.var 3) (.cons (.var 7) .nil))) (.cons (.cst (.int 0)) .nil)))) (.cons (.ret (.tupE (.cons (.var 5) (.cons (.var 7) (.cons (.cst .non) .nil))))) .nil) .nil) (.cons (.asg 8 false (.lc (.zip (.bi (.slc true false) (.cons (.var 1) (.cons (.bi .add (.cons (.var 4) (.cons (.cst (.int 1)) .nil))) .nil))) (.bi (.slc true false) (.cons (.var 2) (.cons (.bi .add (.cons (.var 4) (.cons (.cst (.int 1)) .nil))) .nil)))) (.tn [9, 10]) (.val (.bi (.cm .eq) (.cons (.var 10) (.cons (.var 7) .nil)))) (.bi .idx (.cons (.var 9) (.cons (.cst (.int 0)) .nil))) [9, 10])) (.cons (.ite (.val (.bi (.cm .ne) (.cons (.var 8) (.cons (.lstE .nil) .nil)))) (.cons (.ret (.tupE (.cons (.var 5) (.cons (.var 7) (.cons (.bi .idx (.cons (.var 8) (.cons (.cst (.int 0)) .nil))) .nil))))) .nil) .nil) .nil)))
def b18_1 : CB := (.cons (.forS (.nm 7) (.val (.bi (.slc false true) (.cons (.var 6) (.cons (.call 13 (.cons (.var 6) (.cons (.bi .idx (.cons (.var 2) (.cons (.var 4) .nil))) .nil))) .nil)))) b18_0) .nil)
def b18 : CB := (.cons (.expr (.meth (.var 0) 0 "check_people" 12 (.cons (.var 1) .nil))) (.cons (.expr (.call 17 (.cons (.var 0) (.cons (.var 1) (.cons (.var 2) .nil))))) (.cons (.asg 3 false (.call 16 (.cons (.var 0) (.cons (.bi .toLst (.cons (.var 2) .nil)) .nil)))) (.cons (.forS (.t2 (.nm 4) (.tn [5, 6])) (.enum (.var 1)) b18_1) (.cons (.ret (.cst .non)) .nil)))))
def c18 : CF := ⟨[false, false, false], false, 11, b18⟩
-- 19 _law_taken: ['_law_row', '_law_many', '_law_cell', '_law_found']
def b19 : CB := (.cons (.ite (.val (.bi (.cm .gt) (.cons (.bi .idx (.cons (.bor 0) (.cons (.cst (.int 3)) .nil))) (.cons (.cst (.int 0)) .nil)))) (.cons (.asg 3 false (.bi .mod (.cons (.bi .toInt (.cons (.bi .idx (.cons (.bor 0) (.cons (.cst (.int 3)) .nil))) .nil)) (.cons (.var 1) .nil)))) (.cons (.setI 0 (.cst (.int 3)) (.bi .fdiv (.cons (.bi .idx (.cons (.bor 0) (.cons (.cst (.int 3)) .nil))) (.cons (.var 1) .nil)))) (.cons (.ret (.var 3)) .nil))) .nil) (.cons (.setI 0 (.cst (.int 1)) (.bi .add (.cons (.bi .idx (.cons (.bor 0) (.cons (.cst (.int 1)) .nil))) (.cons (.cst (.int 1)) .nil)))) (.cons (.ite (.val (.bi (.cm .gt) (.cons (.bi .idx (.cons (.bor 0) (.cons (.cst (.int 1)) .nil))) (.cons (.bi .len (.cons (.bi .idx (.cons (.bor 0) (.cons (.cst (.int 0)) .nil))) .nil)) .nil)))) (.cons (.setI 0 (.cst (.int 2)) (.bi .mod (.cons (.bi .toInt (.cons (.bi .add (.cons (.bi .mul (.cons (.bi .idx (.cons (.bor 0) (.cons (.cst (.int 2)) .nil))) (.cons (.cst (.int 48271)) .nil))) (.cons (.cst (.int 11)) .nil))) .nil)) (.cons (.cst (.int 2147483647)) .nil)))) (.cons (.ret (.bi .mod (.cons (.bi .toInt (.cons (.bi .fdiv (.cons (.bi .idx (.cons (.bor 0) (.cons (.cst (.int 2)) .nil))) (.cons (.cst (.int 7)) .nil))) .nil)) (.cons (.var 1) .nil)))) .nil)) .nil) (.cons (.asg 2 false (.bi .idx (.cons (.bi .idx (.cons (.bor 0) (.cons (.cst (.int 0)) .nil))) (.cons (.bi .sub (.cons (.bi .idx (.cons (.bor 0) (.cons (.cst (.int 1)) .nil))) (.cons (.cst (.int 1)) .nil))) .nil)))) (.cons (.setI 0 (.cst (.int 2)) (.bi .mod (.cons (.bi .toInt (.cons (.bi .add (.cons (.bi .add (.cons (.bi .mul (.cons (.bi .idx (.cons (.bor 0) (.cons (.cst (.int 2)) .nil))) (.cons (.cst (.int 48271)) .nil))) (.cons (.var 2) .nil))) (.cons (.cst (.int 11)) .nil))) .nil)) (.cons (.cst (.int 2147483647)) .nil)))) (.cons (.ite (.val (.bi (.cm .ge) (.cons (.var 2) (.cons (.bi .pow (.cons (.cst (.int 10)) (.cons (.cst (.int 18)) .nil))) .nil)))) (.cons (.setI 0 (.cst (.int 3)) (.bi .fdiv (.cons (.var 2) (.cons (.var 1) .nil)))) .nil) .nil) (.cons (.ret (.bi .mod (.cons (.bi .toInt (.cons (.var 2) .nil)) (.cons (.var 1) .nil)))) .nil)))))))
def c19 : CF := ⟨[true, false], false, 4, b19⟩
-- 20 _law_places: ['_law_row', '_law_most', '_law_names', '_law_count', '_law_name']
def b20 : CB := (.cons (.asg 2 false (.lstE (.cons (.cst (.str "pond")) (.cons (.cst (.str "a")) (.cons (.cst (.str "zoo")) (.cons (.cst (.str "b")) (.cons (.cst (.str "hill")) (.cons (.cst (.str "c")) (.cons (.cst (.str "d")) (.cons (.cst (.str "attic")) .nil)))))))))) (.cons (.asg 3 false (.bi .add (.cons (.cst (.int 1)) (.cons (.call 19 (.cons (.bor 0) (.cons (.var 1) .nil))) .nil)))) (.cons (.ret (.bi .toTup (.cons (.lc (.val (.bi (.slc false true) (.cons (.var 2) (.cons (.var 3) .nil)))) (.nm 4) .tt (.tupE (.cons (.var 4) (.cons (.bi .idx (.cons (.lstE (.cons (.cst (.int 1)) (.cons (.cst (.int 1)) (.cons (.cst (.int 2)) (.cons (.cst (.int 0)) (.cons (.cst (.int 3)) .nil)))))) (.cons (.call 19 (.cons (.bor 0) (.cons (.cst (.int 5)) .nil))) .nil))) .nil))) [4]) .nil))) .nil)))
def c20 : CF := ⟨[true, false], false, 5, b20⟩
-- 21 _law_wishes: ['_law_row', '_law_places_here', '_law_rest', '_law_found', '_law_k', '_law_place']
def b21_0 : CB := (.cons (.app 3 (.pop 2 (.call 19 (.cons (.bor 0) (.cons (.bi .len (.cons (.bor 2) .nil)) .nil))))) .nil)
def b21 : CB := (.cons (.par2 2 true (.lc (.val (.var 1)) (.nm 5) .tt (.bi .idx (.cons (.var 5) (.cons (.cst (.int 0)) .nil))) [5]) 3 true (.lstE .nil)) (.cons (.forS (.nm 4) (.rng1 (.bi .add (.cons (.cst (.int 1)) (.cons (.call 19 (.cons (.bor 0) (.cons (.bi .len (.cons (.bor 2) .nil)) .nil))) .nil)))) b21_0) (.cons (.ret (.bi .toTup (.cons (.bor 3) .nil))) .nil)))
def c21 : CF := ⟨[true, false], false, 6, b21⟩
-- 22 _law_people: ['_law_row', '_law_places_here', '_law_most', '_law_names', '_law_found', '_law_name', '_law_wishes_here']
def b22_0 : CB := (.cons (.asg 6 false (.call 21 (.cons (.bor 0) (.cons (.var 1) .nil)))) (.cons (.ite (.and (.val (.bi (.cm .ne) (.cons (.bor 4) (.cons (.lstE .nil) .nil)))) (.val (.bi (.cm .eq) (.cons (.call 19 (.cons (.bor 0) (.cons (.cst (.int 2)) .nil))) (.cons (.cst (.int 0)) .nil))))) (.cons (.asg 6 false (.bi .idx (.cons (.bi .idx (.cons (.bor 4) (.cons (.call 19 (.cons (.bor 0) (.cons (.bi .len (.cons (.bor 4) .nil)) .nil))) .nil))) (.cons (.cst (.int 1)) .nil)))) .nil) .nil) (.cons (.app 4 (.tupE (.cons (.var 5) (.cons (.var 6) .nil)))) .nil)))
def b22 : CB := (.cons (.asg 3 false (.lstE (.cons (.cst (.str "ann")) (.cons (.cst (.str "cid")) (.cons (.cst (.str "bob")) (.cons (.cst (.str "eve")) (.cons (.cst (.str "dan")) (.cons (.cst (.str "fay")) (.cons (.cst (.str "x")) (.cons (.cst (.str "zed")) (.cons (.cst (.str "kim")) (.cons (.cst (.str "lou")) (.cons (.cst (.str "max")) (.cons (.cst (.str "ned")) .nil)))))))))))))) (.cons (.asg 4 true (.lstE .nil)) (.cons (.forS (.nm 5) (.val (.bi (.slc false true) (.cons (.var 3) (.cons (.call 19 (.cons (.bor 0) (.cons (.bi .add (.cons (.var 2) (.cons (.cst (.int 1)) .nil))) .nil))) .nil)))) b22_0) (.cons (.ret (.bi .toTup (.cons (.bor 4) .nil))) .nil))))
def c22 : CF := ⟨[true, false, false], false, 7, b22⟩
-- 23 _law_house: ['_law_places_here', '_law_house_here', '_law_known', '_law_name']
def b23_0 : CB := (.cons (.asg 1 false (.meth (.var 1) 0 "with_seats" 9 (.cons (.var 3) (.cons (.bm .getD (.var 2) (.cons (.var 3) (.cons (.cst (.int 0)) .nil))) .nil)))) .nil)
def b23 : CB := (.cons (.asg 1 false (.cmeth 0 "single" 4 (.cons (.cst (.str "pond")) (.cons (.cst (.str "a")) (.cons (.cst (.str "zoo")) (.cons (.cst (.str "b")) (.cons (.cst (.str "hill")) (.cons (.cst (.str "c")) (.cons (.cst (.str "d")) (.cons (.cst (.str "attic")) .nil)))))))))) (.cons (.ite (.val (.bi (.cm .lt) (.cons (.bi .len (.cons (.var 0) .nil)) (.cons (.cst (.int 3)) .nil)))) (.cons (.asg 1 false (.cmeth 0 "single" 4 (.cons (.cst (.str "pond")) (.cons (.cst (.str "a")) .nil)))) .nil) .nil) (.cons (.ite (.val (.bi (.cm .isin) (.cons (.bi .len (.cons (.var 0) .nil)) (.cons (.tupE (.cons (.cst (.int 3)) (.cons (.cst (.int 4)) .nil))) .nil)))) (.cons (.asg 1 false (.cmeth 0 "single" 4 (.cons (.cst (.str "pond")) (.cons (.cst (.str "a")) (.cons (.cst (.str "zoo")) (.cons (.cst (.str "b")) .nil)))))) .nil) .nil) (.cons (.ite (.val (.bi (.cm .isin) (.cons (.bi .len (.cons (.var 0) .nil)) (.cons (.tupE (.cons (.cst (.int 5)) (.cons (.cst (.int 6)) .nil))) .nil)))) (.cons (.asg 1 false (.cmeth 0 "single" 4 (.cons (.cst (.str "pond")) (.cons (.cst (.str "a")) (.cons (.cst (.str "zoo")) (.cons (.cst (.str "b")) (.cons (.cst (.str "hill")) (.cons (.cst (.str "c")) .nil)))))))) .nil) .nil) (.cons (.asg 2 false (.bi .toDic (.cons (.var 0) .nil))) (.cons (.forS (.nm 3) (.val (.prop (.var 1) 0 "names" 6)) b23_0) (.cons (.ret (.var 1)) .nil)))))))
def c23 : CF := ⟨[false], false, 4, b23⟩
-- 24 _law_list: ['_law_row', '_law_house_here', '_law_people_here', '_law_found', '_law_free', '_law_name', '_law_wishes_here', '_law_some', '_law_place', '_law_wish']
def b24_0 : CB := (.cons (.asg 7 false (.bi .add (.cons (.lstE (.cons (.cst .non) .nil)) (.cons (.lc (.val (.var 6)) (.nm 9) (.val (.bi (.cm .gt) (.cons (.bi .idx (.cons (.bor 4) (.cons (.var 9) .nil))) (.cons (.cst (.int 0)) .nil)))) (.var 9) [9]) .nil)))) (.cons (.asg 8 false (.bi .idx (.cons (.var 7) (.cons (.call 19 (.cons (.bor 0) (.cons (.bi .len (.cons (.var 7) .nil)) .nil))) .nil)))) (.cons (.app 3 (.var 8)) (.cons (.ite (.val (.bi (.cm .notN) (.cons (.var 8) (.cons (.cst .non) .nil)))) (.cons (.setI 4 (.var 8) (.bi .sub (.cons (.bi .idx (.cons (.bor 4) (.cons (.var 8) .nil))) (.cons (.cst (.int 1)) .nil)))) .nil) .nil) .nil))))
def b24 : CB := (.cons (.par2 3 true (.lstE .nil) 4 true (.bi .toDic (.cons (.prop (.var 1) 0 "places" 5) .nil))) (.cons (.forS (.tn [5, 6]) (.val (.var 2)) b24_0) (.cons (.ret (.mv 3)) .nil)))
def c24 : CF := ⟨[true, false, false], false, 10, b24⟩
-- 25 _law_is_fault: ['_law_house_here', '_law_people_here', '_law_places_here', '_law_fault', '_law_name', '_law_place', '_law_holder', '_law_names', '_law_k', '_law_wishes_here', '_law_own', '_law_better', '_law_later', '_law_is_free', '_law_wish', '_law_person', '_law_j']
def b25_0 : CB := (.cons (.ite (.or (.val (.bi (.cm .gt) (.cons (.bi .idx (.cons (.bi .toDic (.cons (.prop (.var 0) 0 "places" 5) .nil)) (.cons (.var 14) .nil))) (.cons (.bm .count (.bor 2) (.cons (.var 14) .nil)) .nil)))) (.val (.bi (.cm .isin) (.cons (.var 14) (.cons (.bi (.slc true false) (.cons (.bor 2) (.cons (.bi .add (.cons (.var 8) (.cons (.cst (.int 1)) .nil))) .nil))) .nil))))) (.cons (.ret (.cst (.bl false))) .nil) .nil) .nil)
def b25 : CB := (.cons (.asgT (.tn [4, 5, 6]) (.var 3)) (.cons (.asg 7 false (.lc (.val (.var 1)) (.nm 15) .tt (.bi .idx (.cons (.var 15) (.cons (.cst (.int 0)) .nil))) [15])) (.cons (.asg 8 false (.bm .index (.var 7) (.cons (.var 4) .nil))) (.cons (.par2 9 false (.bi .idx (.cons (.bi .idx (.cons (.var 1) (.cons (.var 8) .nil))) (.cons (.cst (.int 1)) .nil))) 10 false (.bi .idx (.cons (.bor 2) (.cons (.var 8) .nil)))) (.cons (.asg 11 false (.ite (.val (.bi (.cm .isN) (.cons (.var 10) (.cons (.cst .non) .nil)))) (.var 9) (.bi (.slc false true) (.cons (.var 9) (.cons (.bm .index (.var 9) (.cons (.var 10) .nil)) .nil))))) (.cons (.asg 12 false (.lc (.rng2 (.bi .add (.cons (.var 8) (.cons (.cst (.int 1)) .nil))) (.bi .len (.cons (.var 7) .nil))) (.nm 16) (.val (.bi (.cm .eq) (.cons (.bi .idx (.cons (.bor 2) (.cons (.var 16) .nil))) (.cons (.var 5) .nil)))) (.bi .idx (.cons (.var 7) (.cons (.var 16) .nil))) [16])) (.cons (.asg 13 false (.bi (.cm .gt) (.cons (.bi .idx (.cons (.bi .toDic (.cons (.prop (.var 0) 0 "places" 5) .nil)) (.cons (.var 5) .nil))) (.cons (.bm .count (.bor 2) (.cons (.var 5) .nil)) .nil)))) (.cons (.ite (.or (.val (.bi (.cm .notin) (.cons (.var 5) (.cons (.var 11) .nil)))) (.val (.bi (.cm .ne) (.cons (.var 6) (.cons (.ite (.val (.var 13)) (.cst .non) (.bi .idx (.cons (.bi .add (.cons (.var 12) (.cons (.lstE (.cons (.cst .non) .nil)) .nil))) (.cons (.cst (.int 0)) .nil)))) .nil))))) (.cons (.ret (.cst (.bl false))) .nil) .nil) (.cons (.forS (.nm 14) (.val (.bi (.slc false true) (.cons (.var 11) (.cons (.bm .index (.var 11) (.cons (.var 5) .nil)) .nil)))) b25_0) (.cons (.ret (.or (.var 13) (.bi (.cm .ne) (.cons (.var 12) (.cons (.lstE .nil) .nil))))) .nil))))))))))
def c25 : CF := ⟨[false, false, true, false], false, 17, b25⟩
-- 26 law: ['_law_script', '_law_row', '_law_turn', '_law_some', '_law_people_here', '_law_house_here', '_law_due', '_law_places_here', '_law_names', '_law_step', '_law_fault', '_law_name', '_law_place', '_law_holder', '_law_person']
def b26_0 : CB := (.cons (.asg 10 false (.call 18 (.cons (.var 5) (.cons (.var 4) (.cons (.bi .toTup (.cons (.bor 7) .nil)) .nil))))) (.cons (.ite (.val (.bi (.cm .notN) (.cons (.var 10) (.cons (.cst .non) .nil)))) (.cons (.ite (.not (.val (.call 25 (.cons (.var 5) (.cons (.var 4) (.cons (.bor 7) (.cons (.var 10) .nil))))))) (.cons (.ret (.cst (.bl false))) .nil) .nil) (.cons (.asgT (.tn [11, 12, 13]) (.var 10)) (.cons (.setI 7 (.bm .index (.var 8) (.cons (.var 11) .nil)) (.var 12)) (.cons (.ite (.val (.bi (.cm .notN) (.cons (.var 13) (.cons (.cst .non) .nil)))) (.cons (.setI 7 (.bm .index (.var 8) (.cons (.var 13) .nil)) (.cst .non)) .nil) .nil) .nil)))) .nil) .nil))
def b26_1 : CB := (.cons (.asg 3 false (.call 20 (.cons (.bor 1) (.cons (.cst (.int 8)) .nil)))) (.cons (.par2 4 false (.call 22 (.cons (.bor 1) (.cons (.var 3) (.cons (.cst (.int 9)) .nil)))) 5 false (.call 23 (.cons (.var 3) .nil))) (.cons (.asg 6 false (.bi .listVals (.cons (.call 15 (.cons (.var 5) (.cons (.var 4) .nil))) .nil))) (.cons (.par2 7 true (.call 24 (.cons (.bor 1) (.cons (.var 5) (.cons (.var 4) .nil)))) 8 false (.lc (.val (.var 4)) (.nm 14) .tt (.bi .idx (.cons (.var 14) (.cons (.cst (.int 0)) .nil))) [14])) (.cons (.ite (.val (.bi (.cm .ne) (.cons (.bi (.cm .isN) (.cons (.call 18 (.cons (.var 5) (.cons (.var 4) (.cons (.bi .toTup (.cons (.bor 7) .nil)) .nil)))) (.cons (.cst .non) .nil))) (.cons (.bi (.cm .eq) (.cons (.bor 7) (.cons (.var 6) .nil))) .nil)))) (.cons (.ret (.cst (.bl false))) .nil) .nil) (.cons (.forS (.nm 9) (.rng1 (.cst (.int 400))) b26_0) (.cons (.ite (.and (.val (.bi (.cm .isN) (.cons (.call 18 (.cons (.var 5) (.cons (.var 4) (.cons (.bi .toTup (.cons (.bor 7) .nil)) .nil)))) (.cons (.cst .non) .nil)))) (.val (.bi (.cm .ne) (.cons (.bor 7) (.cons (.var 6) .nil))))) (.cons (.ret (.cst (.bl false))) .nil) .nil) (.cons (.ite (.val (.bi (.cm .notN) (.cons (.call 18 (.cons (.var 5) (.cons (.var 4) (.cons (.bi .toTup (.cons (.var 6) .nil)) .nil)))) (.cons (.cst .non) .nil)))) (.cons (.ret (.cst (.bl false))) .nil) .nil) .nil))))))))
def b26 : CB := (.cons (.asg 1 true (.lstE (.cons (.var 0) (.cons (.cst (.int 0)) (.cons (.cst (.int 0)) (.cons (.cst (.int 0)) .nil)))))) (.cons (.forS (.nm 2) (.rng1 (.cst (.int 3))) b26_1) (.cons (.ret (.cst (.bl true))) .nil)))
def c26 : CF := ⟨[false], false, 15, b26⟩
def text : List CF := [c0, c1, c2, c3, c4, c5, c6, c7, c8, c9, c10, c11, c12, c13, c14, c15, c16, c17, c18, c19, c20, c21, c22, c23, c24, c25, c26]
def fl0 : List Str := ["rows", "known"]
def Sg : Fs where
  N := []
  sc := defScope (stA 0)
  fnOf := [("is_integer", 0), ("is_name", 1), ("is_place", 2), ("rank_of", 13), ("choose", 15), ("free_of", 16), ("check_list", 17), ("first_fault", 18), ("_law_taken", 19), ("_law_places", 20), ("_law_wishes", 21), ("_law_people", 22), ("_law_house", 23), ("_law_list", 24), ("_law_is_fault", 25), ("law", 26)]
  clOf := [("House", 0)]
  ctOf := [("MAX_LETTERS", (.int 8)), ("LETTERS", (.str "abcdefghijklmnopqrstuvwxyz")), ("MAX_SEATS", (.int 9)), ("MAX_PLACES", (.int 8)), ("MAX_PEOPLE", (.int 12))]
  meths := [((0, "check_place"), 7), ((0, "seats_at"), 8), ((0, "with_seats"), 9), ((0, "check_wishes"), 10), ((0, "is_person"), 11), ((0, "check_people"), 12)]
  props := [((0, "places"), 5), ((0, "names"), 6)]
  cmeths := [((0, "single"), 4)]
  inits := [(0, 3)]
  flds := [fl0]
  gnOf := [("takings_of", 14)]
theorem hWF : ∀ (k : Nat) (vs : List D) (s : Sta) (w : Wd) (σ : L2.St), ¬ WF k vs s w σ := fun _ _ _ _ _ h => h
section
variable {c : Cn} {g : G} {lv : Nat} {X : Cx} {P : L2.St → Prop}
def n0 : List Str := ["value", "low", "high"]
def s0 : Fs := { Sg with N := n0, sc := defScope (stA 14) }
theorem fit0 (o : Ok s0 c g CX0 (lv + 1) X) (q : PF c0.md P) : PSs X (defBody (stA 14)) (tS c WF P (evB g b0)) :=
  (fb_cons (fs_ret (f_and (f_isi o (t := .int) (by kernel_rfl) (by kernel_rfl) (by kernel_rfl) (f_var o (by kernel_rfl) (by kernel_rfl) (by kernel_rfl))) (f_and (f_not (f_isi o (t := .bool) (by kernel_rfl) (by kernel_rfl) (by kernel_rfl) (f_var o (by kernel_rfl) (by kernel_rfl) (by kernel_rfl)))) (f_one (f_ch o (by kernel_rfl) (by kernel_rfl) (by kernel_rfl) (f_var o (by kernel_rfl) (by kernel_rfl) (by kernel_rfl)) (f_var o (by kernel_rfl) (by kernel_rfl) (by kernel_rfl)) (f_var o (by kernel_rfl) (by kernel_rfl) (by kernel_rfl)))))))
  fb_nil)
def n1 : List Str := ["value", "letter"]
def s1 : Fs := { Sg with N := n1, sc := defScope (stA 15) }
theorem fit1 (o : Ok s1 c g CX0 (lv + 1) X) (q : PF c1.md P) : PSs X (defBody (stA 15)) (tS c WF P (evB g b1)) :=
  (fb_cons (fs_ite (L2.PW.pt (fw_or (ft_not (ft_val o (by kernel_rfl) (f_isi o (t := .str) (by kernel_rfl) (by kernel_rfl) (by kernel_rfl) (f_var o (by kernel_rfl) (by kernel_rfl) (by kernel_rfl))))) (fw_or1 (ft_not (ft_ch o (by kernel_rfl) (by kernel_rfl) (by kernel_rfl) (f_cst (by kernel_rfl)) (f_len o (by kernel_rfl) (by kernel_rfl) (f_var o (by kernel_rfl) (by kernel_rfl) (by kernel_rfl))) (f_gcst o (by kernel_rfl) (by kernel_rfl) (by kernel_rfl))))))) (fb_cons (fs_ret (f_cst (by kernel_rfl)))
  fb_nil) fb_nil)
  (fb_cons (fs_ret (f_all o (by kernel_rfl) (by kernel_rfl) (f_lc o (pr := false) (own := ([("letter", 1)] : List (Str × Nat))) (t := (.nm 1)) (fun h => nomatch h) (by kernel_rfl) (by kernel_rfl) (by kernel_rfl) (fi_val o (f_var o (by kernel_rfl) (by kernel_rfl) (by kernel_rfl))) (fun _ o' => (fg_nm o' (by kernel_rfl) (by kernel_rfl))) (fun _ o' => fp_nil) (fun _ o' => (f_cmp o' (by kernel_rfl) (by kernel_rfl) (f_var o' (by kernel_rfl) (by kernel_rfl) (by kernel_rfl)) (f_gcst o' (by kernel_rfl) (by kernel_rfl) (by kernel_rfl)))))))
  fb_nil))
def n2 : List Str := ["value", "name", "seats"]
def s2 : Fs := { Sg with N := n2, sc := defScope (stA 16) }
theorem fit2 (o : Ok s2 c g CX0 (lv + 1) X) (q : PF c2.md P) : PSs X (defBody (stA 16)) (tS c WF P (evB g b2)) :=
  (fb_cons (fs_mseq o (q.same (by kernel_rfl)) (by kernel_rfl) (by kernel_rfl) (by kernel_rfl) (by kernel_rfl) (by kernel_rfl) (by kernel_rfl) (by kernel_rfl) (ft_val o (by kernel_rfl) (f_isi o (t := .tup) (by kernel_rfl) (by kernel_rfl) (by kernel_rfl) (f_var o (by kernel_rfl) (by kernel_rfl) (by kernel_rfl)))) (fb_cons (fs_ret (f_and (f_call o (by kernel_rfl) (by kernel_rfl) (by kernel_rfl) (f_args1 (by kernel_rfl) (f_cons (by kernel_rfl) (f_var o (by kernel_rfl) (by kernel_rfl) (by kernel_rfl)) f_nil))) (f_one (f_call o (by kernel_rfl) (by kernel_rfl) (by kernel_rfl) (f_args1 (by kernel_rfl) (f_cons (by kernel_rfl) (f_var o (by kernel_rfl) (by kernel_rfl) (by kernel_rfl)) (f_cons (by kernel_rfl) (f_cst (by kernel_rfl)) (f_cons (by kernel_rfl) (f_gcst o (by kernel_rfl) (by kernel_rfl) (by kernel_rfl)) f_nil))))))))
  fb_nil) (fb_cons (fs_ret (f_cst (by kernel_rfl)))
  fb_nil))
  fb_nil)
def n3 : List Str := ["self", "places", "known", "index", "place"]
def s3 : Fs := { Sg with N := n3, sc := defScope (stM 17 0) }
theorem fit3 (o : Ok s3 c g CX0 (lv + 1) X) (q : PF c3.md P) : PSs X (defBody (stM 17 0)) (tS c WF P (evB g b3)) :=
  (fb_cons (fs_asg o (q.set (by kernel_rfl)) (by kernel_rfl) (by kernel_rfl) (by kernel_rfl) f_dic)
  (fb_cons (fs_for o (pr := true) (t := (.tn [3, 4])) (fun _ => rfl) (q.same (by kernel_rfl)) (by kernel_rfl) (fi_enum o (by kernel_rfl) (by kernel_rfl) (f_var o (by kernel_rfl) (by kernel_rfl) (by kernel_rfl))) (fg_tn o (by kernel_rfl) (by kernel_rfl) (fg_cons o (by kernel_rfl) (by kernel_rfl) (fg_cons o (by kernel_rfl) (by kernel_rfl) fg_nil))) (fb_cons (fs_ite (L2.PW.pt (fw_or (ft_cmp o (by kernel_rfl) (by kernel_rfl) (f_var o (by kernel_rfl) (by kernel_rfl) (by kernel_rfl)) (f_gcst o (by kernel_rfl) (by kernel_rfl) (by kernel_rfl))) (fw_or (ft_not (ft_val o (by kernel_rfl) (f_call o (by kernel_rfl) (by kernel_rfl) (by kernel_rfl) (f_args1 (by kernel_rfl) (f_cons (by kernel_rfl) (f_var o (by kernel_rfl) (by kernel_rfl) (by kernel_rfl)) f_nil))))) (fw_or1 (ft_cmp o (by kernel_rfl) (by kernel_rfl) (f_idx o (by kernel_rfl) (f_var o (by kernel_rfl) (by kernel_rfl) (by kernel_rfl)) (f_cst (by kernel_rfl))) (f_bor o (by kernel_rfl) (by kernel_rfl) (by kernel_rfl))))))) (fb_cons fs_never
  fb_nil) fb_nil)
  (fb_cons (fs_setI o (by kernel_rfl) (by kernel_rfl) (by kernel_rfl) (by kernel_rfl) (by kernel_rfl) (f_idx o (by kernel_rfl) (f_var o (by kernel_rfl) (by kernel_rfl) (by kernel_rfl)) (f_cst (by kernel_rfl))) (f_idx o (by kernel_rfl) (f_var o (by kernel_rfl) (by kernel_rfl) (by kernel_rfl)) (f_cst (by kernel_rfl))))
  fb_nil)))
  (fb_cons (fs_ite (ft_cmp o (by kernel_rfl) (by kernel_rfl) (f_var o (by kernel_rfl) (by kernel_rfl) (by kernel_rfl)) (f_tup f_nil)) (fb_cons fs_never
  fb_nil) fb_nil)
  (fb_cons (fs_setF o (fs := fl0) (by kernel_rfl) (by decide +kernel) (by kernel_rfl) (by kernel_rfl) (by kernel_rfl) (by kernel_rfl) (by kernel_rfl) (f_var o (by kernel_rfl) (by kernel_rfl) (by kernel_rfl)))
  (fb_cons (fs_setF o (fs := fl0) (by kernel_rfl) (by decide +kernel) (by kernel_rfl) (by kernel_rfl) (by kernel_rfl) (by kernel_rfl) (by kernel_rfl) (f_mv o (by kernel_rfl) (by kernel_rfl) (by kernel_rfl)))
  fb_nil)))))
def n4 : List Str := ["cls", "names", "rows", "name"]
def s4 : Fs := { Sg with N := n4, sc := defScope (stM 17 1) }
theorem fit4 (o : Ok s4 c g CX0 (lv + 1) X) (q : PF c4.md P) : PSs X (defBody (stM 17 1)) (tS c WF P (evB g b4)) :=
  (fb_cons (fs_setLc o (pr := false) (own := ([("name", 3)] : List (Str × Nat))) (t := (.nm 3)) (q.set (by kernel_rfl)) (by kernel_rfl) (by kernel_rfl) (by kernel_rfl) (by kernel_rfl) (by kernel_rfl) (fun h => nomatch h) (by kernel_rfl) (by kernel_rfl) (by kernel_rfl) (fi_val o (f_var o (by kernel_rfl) (by kernel_rfl) (by kernel_rfl))) (fun _ o' => (fg_nm o' (by kernel_rfl) (by kernel_rfl))) (fun _ o' => fp_nil) (fun _ o' => (f_tup (f_cons (by kernel_rfl) (f_var o' (by kernel_rfl) (by kernel_rfl) (by kernel_rfl)) (f_cons (by kernel_rfl) (f_cst (by kernel_rfl)) f_nil)))))
  (fb_cons (fs_ret (f_mkv o (by kernel_rfl) (by kernel_rfl) (by kernel_rfl) (by kernel_rfl) (f_star1 o (f_var o (by kernel_rfl) (by kernel_rfl) (by kernel_rfl)))))
  fb_nil))
def n5 : List Str := ["self"]
def s5 : Fs := { Sg with N := n5, sc := defScope (stM 17 2) }
theorem fit5 (o : Ok s5 c g CX0 (lv + 1) X) (q : PF c5.md P) : PSs X (defBody (stM 17 2)) (tS c WF P (evB g b5)) :=
  (fb_cons (fs_ret (f_fld o (fs := fl0) (by kernel_rfl) (by kernel_rfl) (by kernel_rfl) (f_var o (by kernel_rfl) (by kernel_rfl) (by kernel_rfl))))
  fb_nil)
def n6 : List Str := ["self"]
def s6 : Fs := { Sg with N := n6, sc := defScope (stM 17 3) }
theorem fit6 (o : Ok s6 c g CX0 (lv + 1) X) (q : PF c6.md P) : PSs X (defBody (stM 17 3)) (tS c WF P (evB g b6)) :=
  (fb_cons (fs_ret (f_tup1 o (by kernel_rfl) (by kernel_rfl) (f_fld o (fs := fl0) (by kernel_rfl) (by kernel_rfl) (by kernel_rfl) (f_var o (by kernel_rfl) (by kernel_rfl) (by kernel_rfl)))))
  fb_nil)
def n7 : List Str := ["self", "name"]
def s7 : Fs := { Sg with N := n7, sc := defScope (stM 17 4) }
theorem fit7 (o : Ok s7 c g CX0 (lv + 1) X) (q : PF c7.md P) : PSs X (defBody (stM 17 4)) (tS c WF P (evB g b7)) :=
  (fb_cons (fs_ite (L2.PW.pt (fw_or (ft_not (ft_val o (by kernel_rfl) (f_isi o (t := .str) (by kernel_rfl) (by kernel_rfl) (by kernel_rfl) (f_var o (by kernel_rfl) (by kernel_rfl) (by kernel_rfl))))) (fw_or1 (ft_cmp o (by kernel_rfl) (by kernel_rfl) (f_var o (by kernel_rfl) (by kernel_rfl) (by kernel_rfl)) (f_fld o (fs := fl0) (by kernel_rfl) (by kernel_rfl) (by kernel_rfl) (f_var o (by kernel_rfl) (by kernel_rfl) (by kernel_rfl))))))) (fb_cons fs_never
  fb_nil) fb_nil)
  fb_nil)
def n8 : List Str := ["self", "name"]
def s8 : Fs := { Sg with N := n8, sc := defScope (stM 17 5) }
theorem fit8 (o : Ok s8 c g CX0 (lv + 1) X) (q : PF c8.md P) : PSs X (defBody (stM 17 5)) (tS c WF P (evB g b8)) :=
  (fb_cons (fs_expr (by kernel_rfl) (f_meth o (fs := fl0) (by kernel_rfl) (by decide +kernel) (by kernel_rfl) (by kernel_rfl) (by kernel_rfl) (by decide +kernel) (by kernel_rfl) (f_var o (by kernel_rfl) (by kernel_rfl) (by kernel_rfl)) (f_args1 (by kernel_rfl) (f_cons (by kernel_rfl) (f_var o (by kernel_rfl) (by kernel_rfl) (by kernel_rfl)) f_nil))))
  (fb_cons (fs_ret (f_idx o (by kernel_rfl) (f_fld o (fs := fl0) (by kernel_rfl) (by kernel_rfl) (by kernel_rfl) (f_var o (by kernel_rfl) (by kernel_rfl) (by kernel_rfl))) (f_var o (by kernel_rfl) (by kernel_rfl) (by kernel_rfl))))
  fb_nil))
def n9 : List Str := ["self", "name", "seats", "rows", "other", "count"]
def s9 : Fs := { Sg with N := n9, sc := defScope (stM 17 6) }
theorem fit9 (o : Ok s9 c g CX0 (lv + 1) X) (q : PF c9.md P) : PSs X (defBody (stM 17 6)) (tS c WF P (evB g b9)) :=
  (fb_cons (fs_expr (by kernel_rfl) (f_meth o (fs := fl0) (by kernel_rfl) (by decide +kernel) (by kernel_rfl) (by kernel_rfl) (by kernel_rfl) (by decide +kernel) (by kernel_rfl) (f_var o (by kernel_rfl) (by kernel_rfl) (by kernel_rfl)) (f_args1 (by kernel_rfl) (f_cons (by kernel_rfl) (f_var o (by kernel_rfl) (by kernel_rfl) (by kernel_rfl)) f_nil))))
  (fb_cons (fs_ite (ft_not (ft_val o (by kernel_rfl) (f_call o (by kernel_rfl) (by kernel_rfl) (by kernel_rfl) (f_args1 (by kernel_rfl) (f_cons (by kernel_rfl) (f_var o (by kernel_rfl) (by kernel_rfl) (by kernel_rfl)) (f_cons (by kernel_rfl) (f_cst (by kernel_rfl)) (f_cons (by kernel_rfl) (f_gcst o (by kernel_rfl) (by kernel_rfl) (by kernel_rfl)) f_nil))))))) (fb_cons fs_never
  fb_nil) fb_nil)
  (fb_cons (fs_setLc o (pr := false) (own := ([("other", 4), ("count", 5)] : List (Str × Nat))) (t := (.tn [4, 5])) (q.set (by kernel_rfl)) (by kernel_rfl) (by kernel_rfl) (by kernel_rfl) (by kernel_rfl) (by kernel_rfl) (fun h => nomatch h) (by kernel_rfl) (by kernel_rfl) (by kernel_rfl) (fi_val o (f_fld o (fs := fl0) (by kernel_rfl) (by kernel_rfl) (by kernel_rfl) (f_var o (by kernel_rfl) (by kernel_rfl) (by kernel_rfl)))) (fun _ o' => (fg_tn o' (by kernel_rfl) (by kernel_rfl) (fg_cons o' (by kernel_rfl) (by kernel_rfl) (fg_cons o' (by kernel_rfl) (by kernel_rfl) fg_nil)))) (fun _ o' => fp_nil) (fun _ o' => (f_tup (f_cons (by kernel_rfl) (f_var o' (by kernel_rfl) (by kernel_rfl) (by kernel_rfl)) (f_cons (by kernel_rfl) (f_if (ft_cmp o' (by kernel_rfl) (by kernel_rfl) (f_var o' (by kernel_rfl) (by kernel_rfl) (by kernel_rfl)) (f_var o' (by kernel_rfl) (by kernel_rfl) (by kernel_rfl))) (f_var o' (by kernel_rfl) (by kernel_rfl) (by kernel_rfl)) (f_var o' (by kernel_rfl) (by kernel_rfl) (by kernel_rfl))) f_nil)))))
  (fb_cons (fs_ret (f_mk o (by kernel_rfl) (by kernel_rfl) (by kernel_rfl) (by kernel_rfl) (f_star1 o (f_var o (by kernel_rfl) (by kernel_rfl) (by kernel_rfl)))))
  fb_nil))))
def n10 : List Str := ["self", "wishes", "index", "wish"]
def s10 : Fs := { Sg with N := n10, sc := defScope (stM 17 7) }
theorem fit10 (o : Ok s10 c g CX0 (lv + 1) X) (q : PF c10.md P) : PSs X (defBody (stM 17 7)) (tS c WF P (evB g b10)) :=
  (fb_cons (fs_ite (L2.PW.pt (fw_or (ft_not (ft_val o (by kernel_rfl) (f_isi o (t := .tup) (by kernel_rfl) (by kernel_rfl) (by kernel_rfl) (f_var o (by kernel_rfl) (by kernel_rfl) (by kernel_rfl))))) (fw_or1 (ft_cmp o (by kernel_rfl) (by kernel_rfl) (f_var o (by kernel_rfl) (by kernel_rfl) (by kernel_rfl)) (f_tup f_nil))))) (fb_cons fs_never
  fb_nil) fb_nil)
  (fb_cons (fs_for o (pr := true) (t := (.tn [2, 3])) (fun _ => rfl) (q.same (by kernel_rfl)) (by kernel_rfl) (fi_enum o (by kernel_rfl) (by kernel_rfl) (f_var o (by kernel_rfl) (by kernel_rfl) (by kernel_rfl))) (fg_tn o (by kernel_rfl) (by kernel_rfl) (fg_cons o (by kernel_rfl) (by kernel_rfl) (fg_cons o (by kernel_rfl) (by kernel_rfl) fg_nil))) (fb_cons (fs_ite (L2.PW.pt (fw_or (ft_not (ft_val o (by kernel_rfl) (f_isi o (t := .str) (by kernel_rfl) (by kernel_rfl) (by kernel_rfl) (f_var o (by kernel_rfl) (by kernel_rfl) (by kernel_rfl))))) (fw_or (ft_cmp o (by kernel_rfl) (by kernel_rfl) (f_var o (by kernel_rfl) (by kernel_rfl) (by kernel_rfl)) (f_fld o (fs := fl0) (by kernel_rfl) (by kernel_rfl) (by kernel_rfl) (f_var o (by kernel_rfl) (by kernel_rfl) (by kernel_rfl)))) (fw_or1 (ft_cmp o (by kernel_rfl) (by kernel_rfl) (f_var o (by kernel_rfl) (by kernel_rfl) (by kernel_rfl)) (f_sl01 o (f_var o (by kernel_rfl) (by kernel_rfl) (by kernel_rfl)) (f_var o (by kernel_rfl) (by kernel_rfl) (by kernel_rfl)))))))) (fb_cons fs_never
  fb_nil) fb_nil)
  fb_nil))
  fb_nil))
def n11 : List Str := ["self", "value"]
def s11 : Fs := { Sg with N := n11, sc := defScope (stM 17 8) }
theorem fit11 (o : Ok s11 c g CX0 (lv + 1) X) (q : PF c11.md P) : PSs X (defBody (stM 17 8)) (tS c WF P (evB g b11)) :=
  (fb_cons (fs_ite (L2.PW.pt (fw_or (ft_not (ft_val o (by kernel_rfl) (f_isi o (t := .tup) (by kernel_rfl) (by kernel_rfl) (by kernel_rfl) (f_var o (by kernel_rfl) (by kernel_rfl) (by kernel_rfl))))) (fw_or (ft_cmp o (by kernel_rfl) (by kernel_rfl) (f_len o (by kernel_rfl) (by kernel_rfl) (f_var o (by kernel_rfl) (by kernel_rfl) (by kernel_rfl))) (f_cst (by kernel_rfl))) (fw_or1 (ft_not (ft_val o (by kernel_rfl) (f_call o (by kernel_rfl) (by kernel_rfl) (by kernel_rfl) (f_args1 (by kernel_rfl) (f_cons (by kernel_rfl) (f_idx o (by kernel_rfl) (f_var o (by kernel_rfl) (by kernel_rfl) (by kernel_rfl)) (f_cst (by kernel_rfl))) f_nil))))))))) (fb_cons (fs_ret (f_cst (by kernel_rfl)))
  fb_nil) fb_nil)
  (fb_cons (fs_try o (fun _ o' => (fb_cons (fs_expr (by kernel_rfl) (f_meth o' (fs := fl0) (by kernel_rfl) (by decide +kernel) (by kernel_rfl) (by kernel_rfl) (by kernel_rfl) (by decide +kernel) (by kernel_rfl) (f_var o' (by kernel_rfl) (by kernel_rfl) (by kernel_rfl)) (f_args1 (by kernel_rfl) (f_cons (by kernel_rfl) (f_idx o' (by kernel_rfl) (f_var o' (by kernel_rfl) (by kernel_rfl) (by kernel_rfl)) (f_cst (by kernel_rfl))) f_nil))))
  fb_nil)))
  (fb_cons (fs_ret (f_cst (by kernel_rfl)))
  fb_nil)))
def n12 : List Str := ["self", "people", "index", "person", "one"]
def s12 : Fs := { Sg with N := n12, sc := defScope (stM 17 9) }
theorem fit12 (o : Ok s12 c g CX0 (lv + 1) X) (q : PF c12.md P) : PSs X (defBody (stM 17 9)) (tS c WF P (evB g b12)) :=
  (fb_cons (fs_ite (ft_not (ft_val o (by kernel_rfl) (f_isi o (t := .tup) (by kernel_rfl) (by kernel_rfl) (by kernel_rfl) (f_var o (by kernel_rfl) (by kernel_rfl) (by kernel_rfl))))) (fb_cons fs_never
  fb_nil) fb_nil)
  (fb_cons (fs_for o (pr := true) (t := (.tn [2, 3])) (fun _ => rfl) (q.same (by kernel_rfl)) (by kernel_rfl) (fi_enum o (by kernel_rfl) (by kernel_rfl) (f_var o (by kernel_rfl) (by kernel_rfl) (by kernel_rfl))) (fg_tn o (by kernel_rfl) (by kernel_rfl) (fg_cons o (by kernel_rfl) (by kernel_rfl) (fg_cons o (by kernel_rfl) (by kernel_rfl) fg_nil))) (fb_cons (fs_ite (L2.PW.pt (fw_or (ft_cmp o (by kernel_rfl) (by kernel_rfl) (f_var o (by kernel_rfl) (by kernel_rfl) (by kernel_rfl)) (f_gcst o (by kernel_rfl) (by kernel_rfl) (by kernel_rfl))) (fw_or (ft_not (ft_val o (by kernel_rfl) (f_meth o (fs := fl0) (by kernel_rfl) (by decide +kernel) (by kernel_rfl) (by kernel_rfl) (by kernel_rfl) (by decide +kernel) (by kernel_rfl) (f_var o (by kernel_rfl) (by kernel_rfl) (by kernel_rfl)) (f_args1 (by kernel_rfl) (f_cons (by kernel_rfl) (f_var o (by kernel_rfl) (by kernel_rfl) (by kernel_rfl)) f_nil))))) (fw_or1 (ft_cmp o (by kernel_rfl) (by kernel_rfl) (f_idx o (by kernel_rfl) (f_var o (by kernel_rfl) (by kernel_rfl) (by kernel_rfl)) (f_cst (by kernel_rfl))) (f_lc o (pr := false) (own := ([("one", 4)] : List (Str × Nat))) (t := (.nm 4)) (fun h => nomatch h) (by kernel_rfl) (by kernel_rfl) (by kernel_rfl) (fi_val o (f_sl01 o (f_var o (by kernel_rfl) (by kernel_rfl) (by kernel_rfl)) (f_var o (by kernel_rfl) (by kernel_rfl) (by kernel_rfl)))) (fun _ o' => (fg_nm o' (by kernel_rfl) (by kernel_rfl))) (fun _ o' => fp_nil) (fun _ o' => (f_idx o' (by kernel_rfl) (f_var o' (by kernel_rfl) (by kernel_rfl) (by kernel_rfl)) (f_cst (by kernel_rfl)))))))))) (fb_cons fs_never
  fb_nil) fb_nil)
  fb_nil))
  fb_nil))
def n13 : List Str := ["wishes", "place"]
def s13 : Fs := { Sg with N := n13, sc := defScope (stA 18) }
theorem fit13 (o : Ok s13 c g CX0 (lv + 1) X) (q : PF c13.md P) : PSs X (defBody (stA 18)) (tS c WF P (evB g b13)) :=
  (fb_cons (fs_ret (f_if (ft_cmp o (by kernel_rfl) (by kernel_rfl) (f_var o (by kernel_rfl) (by kernel_rfl) (by kernel_rfl)) (f_cst (by kernel_rfl))) (f_len o (by kernel_rfl) (by kernel_rfl) (f_var o (by kernel_rfl) (by kernel_rfl) (by kernel_rfl))) (f_bm o (by kernel_rfl) (by kernel_rfl) (by kernel_rfl) (by decide +kernel) (by kernel_rfl) (f_var o (by kernel_rfl) (by kernel_rfl) (by kernel_rfl)) (f_cons (by kernel_rfl) (f_var o (by kernel_rfl) (by kernel_rfl) (by kernel_rfl)) f_nil))))
  fb_nil)
def n14 : List Str := ["house", "people", "free", "name", "wishes", "chosen", "wish", "seats"]
def s14 : Fs := { Sg with N := n14, sc := defScope (stA 20) }
theorem fit14 {U : GD} (gk : GOk U) (hcK : U.K = c.K) (hco : U.scope.isCoroutine = false) (O : ∀ s0 H0, Ok s14 c g CX0 (lv + 1) (U.cx s0 H0)) : GSs c U (defBody (stA 20)) (evB g b14) :=
  (gss_cons (gs_plain (fun s0 H0 => have o := O s0 H0; (fs_setDc o (pr := false) (own := ([("name", 3), ("seats", 7)] : List (Str × Nat))) (t := (.tn [3, 7])) (fun _ _ _ => trivial) (by kernel_rfl) (by kernel_rfl) (by kernel_rfl) (by kernel_rfl) (by kernel_rfl) (fun h => nomatch h) (by kernel_rfl) (by kernel_rfl) (by kernel_rfl) (fi_val o (f_prop o hWF (fs := fl0) (by kernel_rfl) (by decide +kernel) (by kernel_rfl) (by kernel_rfl) (f_var o (by kernel_rfl) (by kernel_rfl) (by kernel_rfl)))) (fun _ o' => (fg_tn o' (by kernel_rfl) (by kernel_rfl) (fg_cons o' (by kernel_rfl) (by kernel_rfl) (fg_cons o' (by kernel_rfl) (by kernel_rfl) fg_nil)))) (fun _ o' => (f_var o' (by kernel_rfl) (by kernel_rfl) (by kernel_rfl))) (fun _ o' => (f_var o' (by kernel_rfl) (by kernel_rfl) (by kernel_rfl))))) (so_S _ _ (by kernel_rfl)))
  (gss_cons (gs_for gk hcK (pr := false) (t := (.tn [3, 4])) (fun h => nomatch h) (folded_plain (by kernel_rfl)) (fun s0 H0 => have o := O s0 H0; (fi_val o (f_var o (by kernel_rfl) (by kernel_rfl) (by kernel_rfl)))) (fun s0 H0 => have o := O s0 H0; (fg_tn o (by kernel_rfl) (by kernel_rfl) (fg_cons o (by kernel_rfl) (by kernel_rfl) (fg_cons o (by kernel_rfl) (by kernel_rfl) fg_nil)))) (gss_cons (gs_plain (fun s0 H0 => have o := O s0 H0; (fs_asg o (fun _ _ _ => trivial) (by kernel_rfl) (by kernel_rfl) (by kernel_rfl) (f_cst (by kernel_rfl)))) (so_S _ _ (by kernel_rfl)))
  (gss_cons (gs_plain (fun s0 H0 => have o := O s0 H0; (fs_for o (pr := false) (t := (.nm 6)) (fun h => nomatch h) (fun _ _ _ _ => trivial) (by kernel_rfl) (fi_val o (f_var o (by kernel_rfl) (by kernel_rfl) (by kernel_rfl))) (fg_nm o (by kernel_rfl) (by kernel_rfl)) (fb_cons (fs_ite (L2.PW.pt (fw_and (ft_cmp o (by kernel_rfl) (by kernel_rfl) (f_idx o (by kernel_rfl) (f_bor o (by kernel_rfl) (by kernel_rfl) (by kernel_rfl)) (f_var o (by kernel_rfl) (by kernel_rfl) (by kernel_rfl))) (f_cst (by kernel_rfl))) (fw_and1 (ft_cmp o (by kernel_rfl) (by kernel_rfl) (f_var o (by kernel_rfl) (by kernel_rfl) (by kernel_rfl)) (f_cst (by kernel_rfl)))))) (fb_cons (fs_asg o (fun _ _ _ => trivial) (by kernel_rfl) (by kernel_rfl) (by kernel_rfl) (f_var o (by kernel_rfl) (by kernel_rfl) (by kernel_rfl)))
  (fb_cons (fs_subI o (by kernel_rfl) (by kernel_rfl) (by kernel_rfl) (by kernel_rfl) (f_cst (by kernel_rfl)) (f_var o (by kernel_rfl) (by kernel_rfl) (by kernel_rfl)))
  fb_nil)) fb_nil)
  fb_nil))) (so_S _ _ (by kernel_rfl)))
  (gss_cons (gs_yield gk (fun s0 H0 => have o := O s0 H0; (f_tup (f_cons (by kernel_rfl) (f_var o (by kernel_rfl) (by kernel_rfl) (by kernel_rfl)) (f_cons (by kernel_rfl) (f_var o (by kernel_rfl) (by kernel_rfl) (by kernel_rfl)) f_nil)))) hco)
  gss_nil))))
  gss_nil))
def n15 : List Str := ["house", "people", "name", "place"]
def s15 : Fs := { Sg with N := n15, sc := defScope (stA 21) }
theorem fit15 (o : Ok s15 c g CX0 (lv + 1) X) (q : PF c15.md P) : PSs X (defBody (stA 21)) (tS c WF P (evB g b15)) :=
  (fb_cons (fs_expr (by kernel_rfl) (f_meth o (fs := fl0) (by kernel_rfl) (by decide +kernel) (by kernel_rfl) (by kernel_rfl) (by kernel_rfl) (by decide +kernel) (by kernel_rfl) (f_var o (by kernel_rfl) (by kernel_rfl) (by kernel_rfl)) (f_args1 (by kernel_rfl) (f_cons (by kernel_rfl) (f_var o (by kernel_rfl) (by kernel_rfl) (by kernel_rfl)) f_nil))))
  (fb_cons (fs_ret (f_dcG o (own := ([("name", 2), ("place", 3)] : List (Str × Nat))) (t := (.tn [2, 3])) (by kernel_rfl) (by kernel_rfl) (by kernel_rfl) (by kernel_rfl) (by kernel_rfl) (by kernel_rfl) (f_args1 (by kernel_rfl) (f_cons (by kernel_rfl) (f_var o (by kernel_rfl) (by kernel_rfl) (by kernel_rfl)) (f_cons (by kernel_rfl) (f_var o (by kernel_rfl) (by kernel_rfl) (by kernel_rfl)) f_nil))) (fun _ o' => (fg_tn o' (by kernel_rfl) (by kernel_rfl) (fg_cons o' (by kernel_rfl) (by kernel_rfl) (fg_cons o' (by kernel_rfl) (by kernel_rfl) fg_nil)))) (fun _ o' => (f_var o' (by kernel_rfl) (by kernel_rfl) (by kernel_rfl))) (fun _ o' => (f_var o' (by kernel_rfl) (by kernel_rfl) (by kernel_rfl)))))
  fb_nil))
def n16 : List Str := ["house", "places", "name", "seats"]
def s16 : Fs := { Sg with N := n16, sc := defScope (stA 22) }
theorem fit16 (o : Ok s16 c g CX0 (lv + 1) X) (q : PF c16.md P) : PSs X (defBody (stA 22)) (tS c WF P (evB g b16)) :=
  (fb_cons (fs_ret (f_dc o (pr := false) (own := ([("name", 2), ("seats", 3)] : List (Str × Nat))) (t := (.tn [2, 3])) (fun h => nomatch h) (by kernel_rfl) (by kernel_rfl) (by kernel_rfl) (fi_val o (f_prop o hWF (fs := fl0) (by kernel_rfl) (by decide +kernel) (by kernel_rfl) (by kernel_rfl) (f_var o (by kernel_rfl) (by kernel_rfl) (by kernel_rfl)))) (fun _ o' => (fg_tn o' (by kernel_rfl) (by kernel_rfl) (fg_cons o' (by kernel_rfl) (by kernel_rfl) (fg_cons o' (by kernel_rfl) (by kernel_rfl) fg_nil)))) (fun _ o' => (f_var o' (by kernel_rfl) (by kernel_rfl) (by kernel_rfl))) (fun _ o' => (f_bin o' (by kernel_rfl) (f_var o' (by kernel_rfl) (by kernel_rfl) (by kernel_rfl)) (f_bm o' (by kernel_rfl) (by kernel_rfl) (by kernel_rfl) (by decide +kernel) (by kernel_rfl) (f_var o' (by kernel_rfl) (by kernel_rfl) (by kernel_rfl)) (f_cons (by kernel_rfl) (f_var o' (by kernel_rfl) (by kernel_rfl) (by kernel_rfl)) f_nil))))))
  fb_nil)
def n17 : List Str := ["house", "people", "places", "index", "place"]
def s17 : Fs := { Sg with N := n17, sc := defScope (stA 23) }
theorem fit17 (o : Ok s17 c g CX0 (lv + 1) X) (q : PF c17.md P) : PSs X (defBody (stA 23)) (tS c WF P (evB g b17)) :=
  (fb_cons (fs_ite (ft_not (ft_val o (by kernel_rfl) (f_isi o (t := .tup) (by kernel_rfl) (by kernel_rfl) (by kernel_rfl) (f_var o (by kernel_rfl) (by kernel_rfl) (by kernel_rfl))))) (fb_cons fs_never
  fb_nil) fb_nil)
  (fb_cons (fs_for o (pr := true) (t := (.tn [3, 4])) (fun _ => rfl) (q.same (by kernel_rfl)) (by kernel_rfl) (fi_enum o (by kernel_rfl) (by kernel_rfl) (f_var o (by kernel_rfl) (by kernel_rfl) (by kernel_rfl))) (fg_tn o (by kernel_rfl) (by kernel_rfl) (fg_cons o (by kernel_rfl) (by kernel_rfl) (fg_cons o (by kernel_rfl) (by kernel_rfl) fg_nil))) (fb_cons (fs_ite (L2.PW.pt (fw_or (ft_cmp o (by kernel_rfl) (by kernel_rfl) (f_var o (by kernel_rfl) (by kernel_rfl) (by kernel_rfl)) (f_len o (by kernel_rfl) (by kernel_rfl) (f_var o (by kernel_rfl) (by kernel_rfl) (by kernel_rfl)))) (fw_or1 (L2.PW.pt (fw_and (ft_cmp o (by kernel_rfl) (by kernel_rfl) (f_var o (by kernel_rfl) (by kernel_rfl) (by kernel_rfl)) (f_cst (by kernel_rfl))) (fw_and1 (ft_cmp o (by kernel_rfl) (by kernel_rfl) (f_var o (by kernel_rfl) (by kernel_rfl) (by kernel_rfl)) (f_idx o (by kernel_rfl) (f_idx o (by kernel_rfl) (f_var o (by kernel_rfl) (by kernel_rfl) (by kernel_rfl)) (f_var o (by kernel_rfl) (by kernel_rfl) (by kernel_rfl))) (f_cst (by kernel_rfl)))))))))) (fb_cons fs_never
  fb_nil) fb_nil)
  (fb_cons (fs_ite (L2.PW.pt (fw_and (ft_cmp o (by kernel_rfl) (by kernel_rfl) (f_var o (by kernel_rfl) (by kernel_rfl) (by kernel_rfl)) (f_cst (by kernel_rfl))) (fw_and1 (ft_cmp o (by kernel_rfl) (by kernel_rfl) (f_bm o (by kernel_rfl) (by kernel_rfl) (by kernel_rfl) (by decide +kernel) (by kernel_rfl) (f_sl01 o (f_var o (by kernel_rfl) (by kernel_rfl) (by kernel_rfl)) (f_var o (by kernel_rfl) (by kernel_rfl) (by kernel_rfl))) (f_cons (by kernel_rfl) (f_var o (by kernel_rfl) (by kernel_rfl) (by kernel_rfl)) f_nil)) (f_meth o (fs := fl0) (by kernel_rfl) (by decide +kernel) (by kernel_rfl) (by kernel_rfl) (by kernel_rfl) (by decide +kernel) (by kernel_rfl) (f_var o (by kernel_rfl) (by kernel_rfl) (by kernel_rfl)) (f_args1 (by kernel_rfl) (f_cons (by kernel_rfl) (f_var o (by kernel_rfl) (by kernel_rfl) (by kernel_rfl)) f_nil))))))) (fb_cons fs_never
  fb_nil) fb_nil)
  fb_nil)))
  (fb_cons (fs_ite (ft_cmp o (by kernel_rfl) (by kernel_rfl) (f_len o (by kernel_rfl) (by kernel_rfl) (f_var o (by kernel_rfl) (by kernel_rfl) (by kernel_rfl))) (f_len o (by kernel_rfl) (by kernel_rfl) (f_var o (by kernel_rfl) (by kernel_rfl) (by kernel_rfl)))) (fb_cons fs_never
  fb_nil) fb_nil)
  fb_nil)))
def n18 : List Str := ["house", "people", "places", "free", "turn", "name", "wishes", "wish", "later", "other", "place"]
def s18 : Fs := { Sg with N := n18, sc := defScope (stA 24) }
theorem fit18 (o : Ok s18 c g CX0 (lv + 1) X) (q : PF c18.md P) : PSs X (defBody (stA 24)) (tS c WF P (evB g b18)) :=
  (fb_cons (fs_expr (by kernel_rfl) (f_meth o (fs := fl0) (by kernel_rfl) (by decide +kernel) (by kernel_rfl) (by kernel_rfl) (by kernel_rfl) (by decide +kernel) (by kernel_rfl) (f_var o (by kernel_rfl) (by kernel_rfl) (by kernel_rfl)) (f_args1 (by kernel_rfl) (f_cons (by kernel_rfl) (f_var o (by kernel_rfl) (by kernel_rfl) (by kernel_rfl)) f_nil))))
  (fb_cons (fs_expr (by kernel_rfl) (f_call o (by kernel_rfl) (by kernel_rfl) (by kernel_rfl) (f_args1 (by kernel_rfl) (f_cons (by kernel_rfl) (f_var o (by kernel_rfl) (by kernel_rfl) (by kernel_rfl)) (f_cons (by kernel_rfl) (f_var o (by kernel_rfl) (by kernel_rfl) (by kernel_rfl)) (f_cons (by kernel_rfl) (f_var o (by kernel_rfl) (by kernel_rfl) (by kernel_rfl)) f_nil))))))
  (fb_cons (fs_asg o (q.set (by kernel_rfl)) (by kernel_rfl) (by kernel_rfl) (by kernel_rfl) (f_call o (by kernel_rfl) (by kernel_rfl) (by kernel_rfl) (f_args1 (by kernel_rfl) (f_cons (by kernel_rfl) (f_var o (by kernel_rfl) (by kernel_rfl) (by kernel_rfl)) (f_cons (by kernel_rfl) (f_lst1 o (by kernel_rfl) (by kernel_rfl) (f_var o (by kernel_rfl) (by kernel_rfl) (by kernel_rfl))) f_nil)))))
  (fb_cons (fs_for o (pr := true) (t := (.t2 (.nm 4) (.tn [5, 6]))) (fun _ => rfl) (q.same (by kernel_rfl)) (by kernel_rfl) (fi_enum o (by kernel_rfl) (by kernel_rfl) (f_var o (by kernel_rfl) (by kernel_rfl) (by kernel_rfl))) (fg_t2 o (by kernel_rfl) (by kernel_rfl) (fg_nm o (by kernel_rfl) (by kernel_rfl)) (fg_tn o (by kernel_rfl) (by kernel_rfl) (fg_cons o (by kernel_rfl) (by kernel_rfl) (fg_cons o (by kernel_rfl) (by kernel_rfl) fg_nil)))) (fb_cons (fs_for o (pr := false) (t := (.nm 7)) (fun h => nomatch h) (q.same (by kernel_rfl)) (by kernel_rfl) (fi_val o (f_sl01 o (f_var o (by kernel_rfl) (by kernel_rfl) (by kernel_rfl)) (f_call o (by kernel_rfl) (by kernel_rfl) (by kernel_rfl) (f_args1 (by kernel_rfl) (f_cons (by kernel_rfl) (f_var o (by kernel_rfl) (by kernel_rfl) (by kernel_rfl)) (f_cons (by kernel_rfl) (f_idx o (by kernel_rfl) (f_var o (by kernel_rfl) (by kernel_rfl) (by kernel_rfl)) (f_var o (by kernel_rfl) (by kernel_rfl) (by kernel_rfl))) f_nil)))))) (fg_nm o (by kernel_rfl) (by kernel_rfl)) (fb_cons (fs_ite (ft_cmp o (by kernel_rfl) (by kernel_rfl) (f_idx o (by kernel_rfl) (f_var o (by kernel_rfl) (by kernel_rfl) (by kernel_rfl)) (f_var o (by kernel_rfl) (by kernel_rfl) (by kernel_rfl))) (f_cst (by kernel_rfl))) (fb_cons (fs_ret (f_tup (f_cons (by kernel_rfl) (f_var o (by kernel_rfl) (by kernel_rfl) (by kernel_rfl)) (f_cons (by kernel_rfl) (f_var o (by kernel_rfl) (by kernel_rfl) (by kernel_rfl)) (f_cons (by kernel_rfl) (f_cst (by kernel_rfl)) f_nil)))))
  fb_nil) fb_nil)
  (fb_cons (fs_setLc o (pr := true) (own := ([("other", 9), ("place", 10)] : List (Str × Nat))) (t := (.tn [9, 10])) (q.set (by kernel_rfl)) (by kernel_rfl) (by kernel_rfl) (by kernel_rfl) (by kernel_rfl) (by kernel_rfl) (fun _ => rfl) (by kernel_rfl) (by kernel_rfl) (by kernel_rfl) (fi_zip o (by kernel_rfl) (by kernel_rfl) (by kernel_rfl) (f_sl10 o (f_var o (by kernel_rfl) (by kernel_rfl) (by kernel_rfl)) (f_bin o (by kernel_rfl) (f_var o (by kernel_rfl) (by kernel_rfl) (by kernel_rfl)) (f_cst (by kernel_rfl)))) (f_sl10 o (f_var o (by kernel_rfl) (by kernel_rfl) (by kernel_rfl)) (f_bin o (by kernel_rfl) (f_var o (by kernel_rfl) (by kernel_rfl) (by kernel_rfl)) (f_cst (by kernel_rfl))))) (fun _ o' => (fg_tn o' (by kernel_rfl) (by kernel_rfl) (fg_cons o' (by kernel_rfl) (by kernel_rfl) (fg_cons o' (by kernel_rfl) (by kernel_rfl) fg_nil)))) (fun _ o' => (fp_one (ft_cmp o' (by kernel_rfl) (by kernel_rfl) (f_var o' (by kernel_rfl) (by kernel_rfl) (by kernel_rfl)) (f_var o' (by kernel_rfl) (by kernel_rfl) (by kernel_rfl))))) (fun _ o' => (f_idx o' (by kernel_rfl) (f_var o' (by kernel_rfl) (by kernel_rfl) (by kernel_rfl)) (f_cst (by kernel_rfl)))))
  (fb_cons (fs_ite (ft_cmp o (by kernel_rfl) (by kernel_rfl) (f_var o (by kernel_rfl) (by kernel_rfl) (by kernel_rfl)) (f_lst f_nil)) (fb_cons (fs_ret (f_tup (f_cons (by kernel_rfl) (f_var o (by kernel_rfl) (by kernel_rfl) (by kernel_rfl)) (f_cons (by kernel_rfl) (f_var o (by kernel_rfl) (by kernel_rfl) (by kernel_rfl)) (f_cons (by kernel_rfl) (f_idx o (by kernel_rfl) (f_var o (by kernel_rfl) (by kernel_rfl) (by kernel_rfl)) (f_cst (by kernel_rfl))) f_nil)))))
  fb_nil) fb_nil)
  fb_nil))))
  fb_nil))
  (fb_cons (fs_ret (f_cst (by kernel_rfl)))
  fb_nil)))))
def n19 : List Str := ["_law_row", "_law_many", "_law_cell", "_law_found"]
def s19 : Fs := { Sg with N := n19, sc := defScope (stA 26) }
theorem fit19 (o : Ok s19 c g CX0 (lv + 1) X) (q : PF c19.md P) : PSs X (defBody (stA 26)) (tS c WF P (evB g b19)) :=
  (fb_cons (fs_ite (ft_cmp o (by kernel_rfl) (by kernel_rfl) (f_idx o (by kernel_rfl) (f_bor o (by kernel_rfl) (by kernel_rfl) (by kernel_rfl)) (f_cst (by kernel_rfl))) (f_cst (by kernel_rfl))) (fb_cons (fs_asg o (q.set (by kernel_rfl)) (by kernel_rfl) (by kernel_rfl) (by kernel_rfl) (f_bin o (by kernel_rfl) (f_int o (by kernel_rfl) (by kernel_rfl) (f_idx o (by kernel_rfl) (f_bor o (by kernel_rfl) (by kernel_rfl) (by kernel_rfl)) (f_cst (by kernel_rfl)))) (f_var o (by kernel_rfl) (by kernel_rfl) (by kernel_rfl))))
  (fb_cons (fs_setI o (by kernel_rfl) (by kernel_rfl) (by kernel_rfl) (by kernel_rfl) (by kernel_rfl) (f_bin o (by kernel_rfl) (f_idx o (by kernel_rfl) (f_bor o (by kernel_rfl) (by kernel_rfl) (by kernel_rfl)) (f_cst (by kernel_rfl))) (f_var o (by kernel_rfl) (by kernel_rfl) (by kernel_rfl))) (f_cst (by kernel_rfl)))
  (fb_cons (fs_ret (f_var o (by kernel_rfl) (by kernel_rfl) (by kernel_rfl)))
  fb_nil))) fb_nil)
  (fb_cons (fs_setI o (by kernel_rfl) (by kernel_rfl) (by kernel_rfl) (by kernel_rfl) (by kernel_rfl) (f_bin o (by kernel_rfl) (f_idx o (by kernel_rfl) (f_bor o (by kernel_rfl) (by kernel_rfl) (by kernel_rfl)) (f_cst (by kernel_rfl))) (f_cst (by kernel_rfl))) (f_cst (by kernel_rfl)))
  (fb_cons (fs_ite (ft_cmp o (by kernel_rfl) (by kernel_rfl) (f_idx o (by kernel_rfl) (f_bor o (by kernel_rfl) (by kernel_rfl) (by kernel_rfl)) (f_cst (by kernel_rfl))) (f_len o (by kernel_rfl) (by kernel_rfl) (f_idx o (by kernel_rfl) (f_bor o (by kernel_rfl) (by kernel_rfl) (by kernel_rfl)) (f_cst (by kernel_rfl))))) (fb_cons (fs_setI o (by kernel_rfl) (by kernel_rfl) (by kernel_rfl) (by kernel_rfl) (by kernel_rfl) (f_bin o (by kernel_rfl) (f_int o (by kernel_rfl) (by kernel_rfl) (f_bin o (by kernel_rfl) (f_bin o (by kernel_rfl) (f_idx o (by kernel_rfl) (f_bor o (by kernel_rfl) (by kernel_rfl) (by kernel_rfl)) (f_cst (by kernel_rfl))) (f_cst (by kernel_rfl))) (f_cst (by kernel_rfl)))) (f_cst (by kernel_rfl))) (f_cst (by kernel_rfl)))
  (fb_cons (fs_ret (f_bin o (by kernel_rfl) (f_int o (by kernel_rfl) (by kernel_rfl) (f_bin o (by kernel_rfl) (f_idx o (by kernel_rfl) (f_bor o (by kernel_rfl) (by kernel_rfl) (by kernel_rfl)) (f_cst (by kernel_rfl))) (f_cst (by kernel_rfl)))) (f_var o (by kernel_rfl) (by kernel_rfl) (by kernel_rfl))))
  fb_nil)) fb_nil)
  (fb_cons (fs_asg o (q.set (by kernel_rfl)) (by kernel_rfl) (by kernel_rfl) (by kernel_rfl) (f_idx o (by kernel_rfl) (f_idx o (by kernel_rfl) (f_bor o (by kernel_rfl) (by kernel_rfl) (by kernel_rfl)) (f_cst (by kernel_rfl))) (f_bin o (by kernel_rfl) (f_idx o (by kernel_rfl) (f_bor o (by kernel_rfl) (by kernel_rfl) (by kernel_rfl)) (f_cst (by kernel_rfl))) (f_cst (by kernel_rfl)))))
  (fb_cons (fs_setI o (by kernel_rfl) (by kernel_rfl) (by kernel_rfl) (by kernel_rfl) (by kernel_rfl) (f_bin o (by kernel_rfl) (f_int o (by kernel_rfl) (by kernel_rfl) (f_bin o (by kernel_rfl) (f_bin o (by kernel_rfl) (f_bin o (by kernel_rfl) (f_idx o (by kernel_rfl) (f_bor o (by kernel_rfl) (by kernel_rfl) (by kernel_rfl)) (f_cst (by kernel_rfl))) (f_cst (by kernel_rfl))) (f_var o (by kernel_rfl) (by kernel_rfl) (by kernel_rfl))) (f_cst (by kernel_rfl)))) (f_cst (by kernel_rfl))) (f_cst (by kernel_rfl)))
  (fb_cons (fs_ite (ft_cmp o (by kernel_rfl) (by kernel_rfl) (f_var o (by kernel_rfl) (by kernel_rfl) (by kernel_rfl)) (f_bin o (by kernel_rfl) (f_cst (by kernel_rfl)) (f_cst (by kernel_rfl)))) (fb_cons (fs_setI o (by kernel_rfl) (by kernel_rfl) (by kernel_rfl) (by kernel_rfl) (by kernel_rfl) (f_bin o (by kernel_rfl) (f_var o (by kernel_rfl) (by kernel_rfl) (by kernel_rfl)) (f_var o (by kernel_rfl) (by kernel_rfl) (by kernel_rfl))) (f_cst (by kernel_rfl)))
  fb_nil) fb_nil)
  (fb_cons (fs_ret (f_bin o (by kernel_rfl) (f_int o (by kernel_rfl) (by kernel_rfl) (f_var o (by kernel_rfl) (by kernel_rfl) (by kernel_rfl))) (f_var o (by kernel_rfl) (by kernel_rfl) (by kernel_rfl))))
  fb_nil)))))))
def n20 : List Str := ["_law_row", "_law_most", "_law_names", "_law_count", "_law_name"]
def s20 : Fs := { Sg with N := n20, sc := defScope (stA 27) }
theorem fit20 (o : Ok s20 c g CX0 (lv + 1) X) (q : PF c20.md P) : PSs X (defBody (stA 27)) (tS c WF P (evB g b20)) :=
  (fb_cons (fs_asg o (q.set (by kernel_rfl)) (by kernel_rfl) (by kernel_rfl) (by kernel_rfl) (f_lst (f_cons (by kernel_rfl) (f_cst (by kernel_rfl)) (f_cons (by kernel_rfl) (f_cst (by kernel_rfl)) (f_cons (by kernel_rfl) (f_cst (by kernel_rfl)) (f_cons (by kernel_rfl) (f_cst (by kernel_rfl)) (f_cons (by kernel_rfl) (f_cst (by kernel_rfl)) (f_cons (by kernel_rfl) (f_cst (by kernel_rfl)) (f_cons (by kernel_rfl) (f_cst (by kernel_rfl)) (f_cons (by kernel_rfl) (f_cst (by kernel_rfl)) f_nil))))))))))
  (fb_cons (fs_asg o (q.set (by kernel_rfl)) (by kernel_rfl) (by kernel_rfl) (by kernel_rfl) (f_bin o (by kernel_rfl) (f_cst (by kernel_rfl)) (f_call o (by kernel_rfl) (by kernel_rfl) (by kernel_rfl) (f_args1 (by kernel_rfl) (f_cons (by kernel_rfl) (f_bor o (by kernel_rfl) (by kernel_rfl) (by kernel_rfl)) (f_cons (by kernel_rfl) (f_var o (by kernel_rfl) (by kernel_rfl) (by kernel_rfl)) f_nil))))))
  (fb_cons (fs_ret (f_tup1 o (by kernel_rfl) (by kernel_rfl) (f_lc o (pr := false) (own := ([("_law_name", 4)] : List (Str × Nat))) (t := (.nm 4)) (fun h => nomatch h) (by kernel_rfl) (by kernel_rfl) (by kernel_rfl) (fi_val o (f_sl01 o (f_var o (by kernel_rfl) (by kernel_rfl) (by kernel_rfl)) (f_var o (by kernel_rfl) (by kernel_rfl) (by kernel_rfl)))) (fun _ o' => (fg_nm o' (by kernel_rfl) (by kernel_rfl))) (fun _ o' => fp_nil) (fun _ o' => (f_tup (f_cons (by kernel_rfl) (f_var o' (by kernel_rfl) (by kernel_rfl) (by kernel_rfl)) (f_cons (by kernel_rfl) (f_idx o' (by kernel_rfl) (f_lst (f_cons (by kernel_rfl) (f_cst (by kernel_rfl)) (f_cons (by kernel_rfl) (f_cst (by kernel_rfl)) (f_cons (by kernel_rfl) (f_cst (by kernel_rfl)) (f_cons (by kernel_rfl) (f_cst (by kernel_rfl)) (f_cons (by kernel_rfl) (f_cst (by kernel_rfl)) f_nil)))))) (f_call o' (by kernel_rfl) (by kernel_rfl) (by kernel_rfl) (f_args1 (by kernel_rfl) (f_cons (by kernel_rfl) (f_bor o' (by kernel_rfl) (by kernel_rfl) (by kernel_rfl)) (f_cons (by kernel_rfl) (f_cst (by kernel_rfl)) f_nil))))) f_nil)))))))
  fb_nil)))
def n21 : List Str := ["_law_row", "_law_places_here", "_law_rest", "_law_found", "_law_k", "_law_place"]
def s21 : Fs := { Sg with N := n21, sc := defScope (stA 28) }
theorem fit21 (o : Ok s21 c g CX0 (lv + 1) X) (q : PF c21.md P) : PSs X (defBody (stA 28)) (tS c WF P (evB g b21)) :=
  (fb_cons (fs_par2 o (by decide +kernel) (q.two (by kernel_rfl) (by kernel_rfl)) (by kernel_rfl) (by kernel_rfl) (by kernel_rfl) (by kernel_rfl) (by kernel_rfl) (by kernel_rfl) (by kernel_rfl) (by kernel_rfl) (by kernel_rfl) (by kernel_rfl) (f_lc o (pr := false) (own := ([("_law_place", 5)] : List (Str × Nat))) (t := (.nm 5)) (fun h => nomatch h) (by kernel_rfl) (by kernel_rfl) (by kernel_rfl) (fi_val o (f_var o (by kernel_rfl) (by kernel_rfl) (by kernel_rfl))) (fun _ o' => (fg_nm o' (by kernel_rfl) (by kernel_rfl))) (fun _ o' => fp_nil) (fun _ o' => (f_idx o' (by kernel_rfl) (f_var o' (by kernel_rfl) (by kernel_rfl) (by kernel_rfl)) (f_cst (by kernel_rfl))))) (f_lst f_nil))
  (fb_cons (fs_for o (pr := false) (t := (.nm 4)) (fun h => nomatch h) (q.same (by kernel_rfl)) (by kernel_rfl) (fi_rng1 o (by kernel_rfl) (by kernel_rfl) (f_bin o (by kernel_rfl) (f_cst (by kernel_rfl)) (f_call o (by kernel_rfl) (by kernel_rfl) (by kernel_rfl) (f_args1 (by kernel_rfl) (f_cons (by kernel_rfl) (f_bor o (by kernel_rfl) (by kernel_rfl) (by kernel_rfl)) (f_cons (by kernel_rfl) (f_len o (by kernel_rfl) (by kernel_rfl) (f_bor o (by kernel_rfl) (by kernel_rfl) (by kernel_rfl))) f_nil)))))) (fg_nm o (by kernel_rfl) (by kernel_rfl)) (fb_cons (fs_app o (by kernel_rfl) (by kernel_rfl) (by kernel_rfl) (by kernel_rfl) (by kernel_rfl) (f_pop o (by kernel_rfl) (by kernel_rfl) (by kernel_rfl) (by kernel_rfl) (by kernel_rfl) (f_call o (by kernel_rfl) (by kernel_rfl) (by kernel_rfl) (f_args1 (by kernel_rfl) (f_cons (by kernel_rfl) (f_bor o (by kernel_rfl) (by kernel_rfl) (by kernel_rfl)) (f_cons (by kernel_rfl) (f_len o (by kernel_rfl) (by kernel_rfl) (f_bor o (by kernel_rfl) (by kernel_rfl) (by kernel_rfl))) f_nil))))))
  fb_nil))
  (fb_cons (fs_ret (f_tup1 o (by kernel_rfl) (by kernel_rfl) (f_bor o (by kernel_rfl) (by kernel_rfl) (by kernel_rfl))))
  fb_nil)))
def n22 : List Str := ["_law_row", "_law_places_here", "_law_most", "_law_names", "_law_found", "_law_name", "_law_wishes_here"]
def s22 : Fs := { Sg with N := n22, sc := defScope (stA 29) }
theorem fit22 (o : Ok s22 c g CX0 (lv + 1) X) (q : PF c22.md P) : PSs X (defBody (stA 29)) (tS c WF P (evB g b22)) :=
  (fb_cons (fs_asg o (q.set (by kernel_rfl)) (by kernel_rfl) (by kernel_rfl) (by kernel_rfl) (f_lst (f_cons (by kernel_rfl) (f_cst (by kernel_rfl)) (f_cons (by kernel_rfl) (f_cst (by kernel_rfl)) (f_cons (by kernel_rfl) (f_cst (by kernel_rfl)) (f_cons (by kernel_rfl) (f_cst (by kernel_rfl)) (f_cons (by kernel_rfl) (f_cst (by kernel_rfl)) (f_cons (by kernel_rfl) (f_cst (by kernel_rfl)) (f_cons (by kernel_rfl) (f_cst (by kernel_rfl)) (f_cons (by kernel_rfl) (f_cst (by kernel_rfl)) (f_cons (by kernel_rfl) (f_cst (by kernel_rfl)) (f_cons (by kernel_rfl) (f_cst (by kernel_rfl)) (f_cons (by kernel_rfl) (f_cst (by kernel_rfl)) (f_cons (by kernel_rfl) (f_cst (by kernel_rfl)) f_nil))))))))))))))
  (fb_cons (fs_asg o (q.set (by kernel_rfl)) (by kernel_rfl) (by kernel_rfl) (by kernel_rfl) (f_lst f_nil))
  (fb_cons (fs_for o (pr := false) (t := (.nm 5)) (fun h => nomatch h) (q.same (by kernel_rfl)) (by kernel_rfl) (fi_val o (f_sl01 o (f_var o (by kernel_rfl) (by kernel_rfl) (by kernel_rfl)) (f_call o (by kernel_rfl) (by kernel_rfl) (by kernel_rfl) (f_args1 (by kernel_rfl) (f_cons (by kernel_rfl) (f_bor o (by kernel_rfl) (by kernel_rfl) (by kernel_rfl)) (f_cons (by kernel_rfl) (f_bin o (by kernel_rfl) (f_var o (by kernel_rfl) (by kernel_rfl) (by kernel_rfl)) (f_cst (by kernel_rfl))) f_nil)))))) (fg_nm o (by kernel_rfl) (by kernel_rfl)) (fb_cons (fs_asg o (q.set (by kernel_rfl)) (by kernel_rfl) (by kernel_rfl) (by kernel_rfl) (f_call o (by kernel_rfl) (by kernel_rfl) (by kernel_rfl) (f_args1 (by kernel_rfl) (f_cons (by kernel_rfl) (f_bor o (by kernel_rfl) (by kernel_rfl) (by kernel_rfl)) (f_cons (by kernel_rfl) (f_var o (by kernel_rfl) (by kernel_rfl) (by kernel_rfl)) f_nil)))))
  (fb_cons (fs_ite (L2.PW.pt (fw_and (ft_cmp o (by kernel_rfl) (by kernel_rfl) (f_bor o (by kernel_rfl) (by kernel_rfl) (by kernel_rfl)) (f_lst f_nil)) (fw_and1 (ft_cmp o (by kernel_rfl) (by kernel_rfl) (f_call o (by kernel_rfl) (by kernel_rfl) (by kernel_rfl) (f_args1 (by kernel_rfl) (f_cons (by kernel_rfl) (f_bor o (by kernel_rfl) (by kernel_rfl) (by kernel_rfl)) (f_cons (by kernel_rfl) (f_cst (by kernel_rfl)) f_nil)))) (f_cst (by kernel_rfl)))))) (fb_cons (fs_asg o (q.set (by kernel_rfl)) (by kernel_rfl) (by kernel_rfl) (by kernel_rfl) (f_idx o (by kernel_rfl) (f_idx o (by kernel_rfl) (f_bor o (by kernel_rfl) (by kernel_rfl) (by kernel_rfl)) (f_call o (by kernel_rfl) (by kernel_rfl) (by kernel_rfl) (f_args1 (by kernel_rfl) (f_cons (by kernel_rfl) (f_bor o (by kernel_rfl) (by kernel_rfl) (by kernel_rfl)) (f_cons (by kernel_rfl) (f_len o (by kernel_rfl) (by kernel_rfl) (f_bor o (by kernel_rfl) (by kernel_rfl) (by kernel_rfl))) f_nil))))) (f_cst (by kernel_rfl))))
  fb_nil) fb_nil)
  (fb_cons (fs_app o (by kernel_rfl) (by kernel_rfl) (by kernel_rfl) (by kernel_rfl) (by kernel_rfl) (f_tup (f_cons (by kernel_rfl) (f_var o (by kernel_rfl) (by kernel_rfl) (by kernel_rfl)) (f_cons (by kernel_rfl) (f_var o (by kernel_rfl) (by kernel_rfl) (by kernel_rfl)) f_nil))))
  fb_nil))))
  (fb_cons (fs_ret (f_tup1 o (by kernel_rfl) (by kernel_rfl) (f_bor o (by kernel_rfl) (by kernel_rfl) (by kernel_rfl))))
  fb_nil))))
def n23 : List Str := ["_law_places_here", "_law_house_here", "_law_known", "_law_name"]
def s23 : Fs := { Sg with N := n23, sc := defScope (stA 30) }
theorem fit23 (o : Ok s23 c g CX0 (lv + 1) X) (q : PF c23.md P) : PSs X (defBody (stA 30)) (tS c WF P (evB g b23)) :=
  (fb_cons (fs_asg o (q.set (by kernel_rfl)) (by kernel_rfl) (by kernel_rfl) (by kernel_rfl) (f_cmeth o (by kernel_rfl) (by kernel_rfl) (by kernel_rfl) (by kernel_rfl) (by kernel_rfl) (by decide +kernel) (by kernel_rfl) (f_cons (by kernel_rfl) (f_cst (by kernel_rfl)) (f_cons (by kernel_rfl) (f_cst (by kernel_rfl)) (f_cons (by kernel_rfl) (f_cst (by kernel_rfl)) (f_cons (by kernel_rfl) (f_cst (by kernel_rfl)) (f_cons (by kernel_rfl) (f_cst (by kernel_rfl)) (f_cons (by kernel_rfl) (f_cst (by kernel_rfl)) (f_cons (by kernel_rfl) (f_cst (by kernel_rfl)) (f_cons (by kernel_rfl) (f_cst (by kernel_rfl)) f_nil))))))))))
  (fb_cons (fs_ite (ft_cmp o (by kernel_rfl) (by kernel_rfl) (f_len o (by kernel_rfl) (by kernel_rfl) (f_var o (by kernel_rfl) (by kernel_rfl) (by kernel_rfl))) (f_cst (by kernel_rfl))) (fb_cons (fs_asg o (q.set (by kernel_rfl)) (by kernel_rfl) (by kernel_rfl) (by kernel_rfl) (f_cmeth o (by kernel_rfl) (by kernel_rfl) (by kernel_rfl) (by kernel_rfl) (by kernel_rfl) (by decide +kernel) (by kernel_rfl) (f_cons (by kernel_rfl) (f_cst (by kernel_rfl)) (f_cons (by kernel_rfl) (f_cst (by kernel_rfl)) f_nil))))
  fb_nil) fb_nil)
  (fb_cons (fs_ite (ft_cmp o (by kernel_rfl) (by kernel_rfl) (f_len o (by kernel_rfl) (by kernel_rfl) (f_var o (by kernel_rfl) (by kernel_rfl) (by kernel_rfl))) (f_tup (f_cons (by kernel_rfl) (f_cst (by kernel_rfl)) (f_cons (by kernel_rfl) (f_cst (by kernel_rfl)) f_nil)))) (fb_cons (fs_asg o (q.set (by kernel_rfl)) (by kernel_rfl) (by kernel_rfl) (by kernel_rfl) (f_cmeth o (by kernel_rfl) (by kernel_rfl) (by kernel_rfl) (by kernel_rfl) (by kernel_rfl) (by decide +kernel) (by kernel_rfl) (f_cons (by kernel_rfl) (f_cst (by kernel_rfl)) (f_cons (by kernel_rfl) (f_cst (by kernel_rfl)) (f_cons (by kernel_rfl) (f_cst (by kernel_rfl)) (f_cons (by kernel_rfl) (f_cst (by kernel_rfl)) f_nil))))))
  fb_nil) fb_nil)
  (fb_cons (fs_ite (ft_cmp o (by kernel_rfl) (by kernel_rfl) (f_len o (by kernel_rfl) (by kernel_rfl) (f_var o (by kernel_rfl) (by kernel_rfl) (by kernel_rfl))) (f_tup (f_cons (by kernel_rfl) (f_cst (by kernel_rfl)) (f_cons (by kernel_rfl) (f_cst (by kernel_rfl)) f_nil)))) (fb_cons (fs_asg o (q.set (by kernel_rfl)) (by kernel_rfl) (by kernel_rfl) (by kernel_rfl) (f_cmeth o (by kernel_rfl) (by kernel_rfl) (by kernel_rfl) (by kernel_rfl) (by kernel_rfl) (by decide +kernel) (by kernel_rfl) (f_cons (by kernel_rfl) (f_cst (by kernel_rfl)) (f_cons (by kernel_rfl) (f_cst (by kernel_rfl)) (f_cons (by kernel_rfl) (f_cst (by kernel_rfl)) (f_cons (by kernel_rfl) (f_cst (by kernel_rfl)) (f_cons (by kernel_rfl) (f_cst (by kernel_rfl)) (f_cons (by kernel_rfl) (f_cst (by kernel_rfl)) f_nil))))))))
  fb_nil) fb_nil)
  (fb_cons (fs_asg o (q.set (by kernel_rfl)) (by kernel_rfl) (by kernel_rfl) (by kernel_rfl) (f_dic1 o (by kernel_rfl) (by kernel_rfl) (f_var o (by kernel_rfl) (by kernel_rfl) (by kernel_rfl))))
  (fb_cons (fs_for o (pr := false) (t := (.nm 3)) (fun h => nomatch h) (q.same (by kernel_rfl)) (by kernel_rfl) (fi_val o (f_prop o hWF (fs := fl0) (by kernel_rfl) (by decide +kernel) (by kernel_rfl) (by kernel_rfl) (f_var o (by kernel_rfl) (by kernel_rfl) (by kernel_rfl)))) (fg_nm o (by kernel_rfl) (by kernel_rfl)) (fb_cons (fs_asg o (q.set (by kernel_rfl)) (by kernel_rfl) (by kernel_rfl) (by kernel_rfl) (f_meth o (fs := fl0) (by kernel_rfl) (by decide +kernel) (by kernel_rfl) (by kernel_rfl) (by kernel_rfl) (by decide +kernel) (by kernel_rfl) (f_var o (by kernel_rfl) (by kernel_rfl) (by kernel_rfl)) (f_args1 (by kernel_rfl) (f_cons (by kernel_rfl) (f_var o (by kernel_rfl) (by kernel_rfl) (by kernel_rfl)) (f_cons (by kernel_rfl) (f_bm o (by kernel_rfl) (by kernel_rfl) (by kernel_rfl) (by decide +kernel) (by kernel_rfl) (f_var o (by kernel_rfl) (by kernel_rfl) (by kernel_rfl)) (f_cons (by kernel_rfl) (f_var o (by kernel_rfl) (by kernel_rfl) (by kernel_rfl)) (f_cons (by kernel_rfl) (f_cst (by kernel_rfl)) f_nil))) f_nil)))))
  fb_nil))
  (fb_cons (fs_ret (f_var o (by kernel_rfl) (by kernel_rfl) (by kernel_rfl)))
  fb_nil)))))))
def n24 : List Str := ["_law_row", "_law_house_here", "_law_people_here", "_law_found", "_law_free", "_law_name", "_law_wishes_here", "_law_some", "_law_place", "_law_wish"]
def s24 : Fs := { Sg with N := n24, sc := defScope (stA 31) }
theorem fit24 (o : Ok s24 c g CX0 (lv + 1) X) (q : PF c24.md P) : PSs X (defBody (stA 31)) (tS c WF P (evB g b24)) :=
  (fb_cons (fs_parC o (by decide +kernel) (q.two (by kernel_rfl) (by kernel_rfl)) (by kernel_rfl) (by kernel_rfl) (by kernel_rfl) (by kernel_rfl) (by kernel_rfl) (by kernel_rfl) (by kernel_rfl) (f_lst f_nil) (f_dic1 o (by kernel_rfl) (by kernel_rfl) (f_prop o hWF (fs := fl0) (by kernel_rfl) (by decide +kernel) (by kernel_rfl) (by kernel_rfl) (f_var o (by kernel_rfl) (by kernel_rfl) (by kernel_rfl)))))
  (fb_cons (fs_for o (pr := false) (t := (.tn [5, 6])) (fun h => nomatch h) (q.same (by kernel_rfl)) (by kernel_rfl) (fi_val o (f_var o (by kernel_rfl) (by kernel_rfl) (by kernel_rfl))) (fg_tn o (by kernel_rfl) (by kernel_rfl) (fg_cons o (by kernel_rfl) (by kernel_rfl) (fg_cons o (by kernel_rfl) (by kernel_rfl) fg_nil))) (fb_cons (fs_asg o (q.set (by kernel_rfl)) (by kernel_rfl) (by kernel_rfl) (by kernel_rfl) (f_bin o (by kernel_rfl) (f_lst (f_cons (by kernel_rfl) (f_cst (by kernel_rfl)) f_nil)) (f_lc o (pr := false) (own := ([("_law_wish", 9)] : List (Str × Nat))) (t := (.nm 9)) (fun h => nomatch h) (by kernel_rfl) (by kernel_rfl) (by kernel_rfl) (fi_val o (f_var o (by kernel_rfl) (by kernel_rfl) (by kernel_rfl))) (fun _ o' => (fg_nm o' (by kernel_rfl) (by kernel_rfl))) (fun _ o' => (fp_one (ft_cmp o' (by kernel_rfl) (by kernel_rfl) (f_idx o' (by kernel_rfl) (f_bor o' (by kernel_rfl) (by kernel_rfl) (by kernel_rfl)) (f_var o' (by kernel_rfl) (by kernel_rfl) (by kernel_rfl))) (f_cst (by kernel_rfl))))) (fun _ o' => (f_var o' (by kernel_rfl) (by kernel_rfl) (by kernel_rfl))))))
  (fb_cons (fs_asg o (q.set (by kernel_rfl)) (by kernel_rfl) (by kernel_rfl) (by kernel_rfl) (f_idx o (by kernel_rfl) (f_var o (by kernel_rfl) (by kernel_rfl) (by kernel_rfl)) (f_call o (by kernel_rfl) (by kernel_rfl) (by kernel_rfl) (f_args1 (by kernel_rfl) (f_cons (by kernel_rfl) (f_bor o (by kernel_rfl) (by kernel_rfl) (by kernel_rfl)) (f_cons (by kernel_rfl) (f_len o (by kernel_rfl) (by kernel_rfl) (f_var o (by kernel_rfl) (by kernel_rfl) (by kernel_rfl))) f_nil))))))
  (fb_cons (fs_app o (by kernel_rfl) (by kernel_rfl) (by kernel_rfl) (by kernel_rfl) (by kernel_rfl) (f_var o (by kernel_rfl) (by kernel_rfl) (by kernel_rfl)))
  (fb_cons (fs_ite (ft_cmp o (by kernel_rfl) (by kernel_rfl) (f_var o (by kernel_rfl) (by kernel_rfl) (by kernel_rfl)) (f_cst (by kernel_rfl))) (fb_cons (fs_setI o (by kernel_rfl) (by kernel_rfl) (by kernel_rfl) (by kernel_rfl) (by kernel_rfl) (f_bin o (by kernel_rfl) (f_idx o (by kernel_rfl) (f_bor o (by kernel_rfl) (by kernel_rfl) (by kernel_rfl)) (f_var o (by kernel_rfl) (by kernel_rfl) (by kernel_rfl))) (f_cst (by kernel_rfl))) (f_var o (by kernel_rfl) (by kernel_rfl) (by kernel_rfl)))
  fb_nil) fb_nil)
  fb_nil)))))
  (fb_cons (fs_ret (f_mv o (by kernel_rfl) (by kernel_rfl) (by kernel_rfl)))
  fb_nil)))
def n25 : List Str := ["_law_house_here", "_law_people_here", "_law_places_here", "_law_fault", "_law_name", "_law_place", "_law_holder", "_law_names", "_law_k", "_law_wishes_here", "_law_own", "_law_better", "_law_later", "_law_is_free", "_law_wish", "_law_person", "_law_j"]
def s25 : Fs := { Sg with N := n25, sc := defScope (stA 32) }
theorem fit25 (o : Ok s25 c g CX0 (lv + 1) X) (q : PF c25.md P) : PSs X (defBody (stA 32)) (tS c WF P (evB g b25)) :=
  (fb_cons (fs_asgT o (tg := (.tn [4, 5, 6])) (q.same (by kernel_rfl)) (by kernel_rfl) (by kernel_rfl) (by kernel_rfl) (fg_tn o (by kernel_rfl) (by kernel_rfl) (fg_cons o (by kernel_rfl) (by kernel_rfl) (fg_cons o (by kernel_rfl) (by kernel_rfl) (fg_cons o (by kernel_rfl) (by kernel_rfl) fg_nil)))) (f_var o (by kernel_rfl) (by kernel_rfl) (by kernel_rfl)))
  (fb_cons (fs_asgC o (q.set (by kernel_rfl)) (by kernel_rfl) (by kernel_rfl) (by kernel_rfl) (f_lc o (pr := false) (own := ([("_law_person", 15)] : List (Str × Nat))) (t := (.nm 15)) (fun h => nomatch h) (by kernel_rfl) (by kernel_rfl) (by kernel_rfl) (fi_val o (f_var o (by kernel_rfl) (by kernel_rfl) (by kernel_rfl))) (fun _ o' => (fg_nm o' (by kernel_rfl) (by kernel_rfl))) (fun _ o' => fp_nil) (fun _ o' => (f_idx o' (by kernel_rfl) (f_var o' (by kernel_rfl) (by kernel_rfl) (by kernel_rfl)) (f_cst (by kernel_rfl))))))
  (fb_cons (fs_asg o (q.set (by kernel_rfl)) (by kernel_rfl) (by kernel_rfl) (by kernel_rfl) (f_bm o (by kernel_rfl) (by kernel_rfl) (by kernel_rfl) (by decide +kernel) (by kernel_rfl) (f_var o (by kernel_rfl) (by kernel_rfl) (by kernel_rfl)) (f_cons (by kernel_rfl) (f_var o (by kernel_rfl) (by kernel_rfl) (by kernel_rfl)) f_nil)))
  (fb_cons (fs_par2 o (by decide +kernel) (q.two (by kernel_rfl) (by kernel_rfl)) (by kernel_rfl) (by kernel_rfl) (by kernel_rfl) (by kernel_rfl) (by kernel_rfl) (by kernel_rfl) (by kernel_rfl) (by kernel_rfl) (by kernel_rfl) (by kernel_rfl) (f_idx o (by kernel_rfl) (f_idx o (by kernel_rfl) (f_var o (by kernel_rfl) (by kernel_rfl) (by kernel_rfl)) (f_var o (by kernel_rfl) (by kernel_rfl) (by kernel_rfl))) (f_cst (by kernel_rfl))) (f_idx o (by kernel_rfl) (f_bor o (by kernel_rfl) (by kernel_rfl) (by kernel_rfl)) (f_var o (by kernel_rfl) (by kernel_rfl) (by kernel_rfl))))
  (fb_cons (fs_asg o (q.set (by kernel_rfl)) (by kernel_rfl) (by kernel_rfl) (by kernel_rfl) (f_if (ft_cmp o (by kernel_rfl) (by kernel_rfl) (f_var o (by kernel_rfl) (by kernel_rfl) (by kernel_rfl)) (f_cst (by kernel_rfl))) (f_var o (by kernel_rfl) (by kernel_rfl) (by kernel_rfl)) (f_sl01 o (f_var o (by kernel_rfl) (by kernel_rfl) (by kernel_rfl)) (f_bm o (by kernel_rfl) (by kernel_rfl) (by kernel_rfl) (by decide +kernel) (by kernel_rfl) (f_var o (by kernel_rfl) (by kernel_rfl) (by kernel_rfl)) (f_cons (by kernel_rfl) (f_var o (by kernel_rfl) (by kernel_rfl) (by kernel_rfl)) f_nil)))))
  (fb_cons (fs_setLc o (pr := false) (own := ([("_law_j", 16)] : List (Str × Nat))) (t := (.nm 16)) (q.set (by kernel_rfl)) (by kernel_rfl) (by kernel_rfl) (by kernel_rfl) (by kernel_rfl) (by kernel_rfl) (fun h => nomatch h) (by kernel_rfl) (by kernel_rfl) (by kernel_rfl) (fi_rng2 o (by kernel_rfl) (by kernel_rfl) (by kernel_rfl) (f_bin o (by kernel_rfl) (f_var o (by kernel_rfl) (by kernel_rfl) (by kernel_rfl)) (f_cst (by kernel_rfl))) (f_len o (by kernel_rfl) (by kernel_rfl) (f_var o (by kernel_rfl) (by kernel_rfl) (by kernel_rfl)))) (fun _ o' => (fg_nm o' (by kernel_rfl) (by kernel_rfl))) (fun _ o' => (fp_one (ft_cmp o' (by kernel_rfl) (by kernel_rfl) (f_idx o' (by kernel_rfl) (f_bor o' (by kernel_rfl) (by kernel_rfl) (by kernel_rfl)) (f_var o' (by kernel_rfl) (by kernel_rfl) (by kernel_rfl))) (f_var o' (by kernel_rfl) (by kernel_rfl) (by kernel_rfl))))) (fun _ o' => (f_idx o' (by kernel_rfl) (f_var o' (by kernel_rfl) (by kernel_rfl) (by kernel_rfl)) (f_var o' (by kernel_rfl) (by kernel_rfl) (by kernel_rfl)))))
  (fb_cons (fs_asg o (q.set (by kernel_rfl)) (by kernel_rfl) (by kernel_rfl) (by kernel_rfl) (f_cmp o (by kernel_rfl) (by kernel_rfl) (f_idx o (by kernel_rfl) (f_dic1 o (by kernel_rfl) (by kernel_rfl) (f_prop o hWF (fs := fl0) (by kernel_rfl) (by decide +kernel) (by kernel_rfl) (by kernel_rfl) (f_var o (by kernel_rfl) (by kernel_rfl) (by kernel_rfl)))) (f_var o (by kernel_rfl) (by kernel_rfl) (by kernel_rfl))) (f_bm o (by kernel_rfl) (by kernel_rfl) (by kernel_rfl) (by decide +kernel) (by kernel_rfl) (f_bor o (by kernel_rfl) (by kernel_rfl) (by kernel_rfl)) (f_cons (by kernel_rfl) (f_var o (by kernel_rfl) (by kernel_rfl) (by kernel_rfl)) f_nil))))
  (fb_cons (fs_ite (L2.PW.pt (fw_or (ft_cmp o (by kernel_rfl) (by kernel_rfl) (f_var o (by kernel_rfl) (by kernel_rfl) (by kernel_rfl)) (f_var o (by kernel_rfl) (by kernel_rfl) (by kernel_rfl))) (fw_or1 (ft_cmp o (by kernel_rfl) (by kernel_rfl) (f_var o (by kernel_rfl) (by kernel_rfl) (by kernel_rfl)) (f_if (ft_val o (by kernel_rfl) (f_var o (by kernel_rfl) (by kernel_rfl) (by kernel_rfl))) (f_cst (by kernel_rfl)) (f_idx o (by kernel_rfl) (f_bin o (by kernel_rfl) (f_var o (by kernel_rfl) (by kernel_rfl) (by kernel_rfl)) (f_lst (f_cons (by kernel_rfl) (f_cst (by kernel_rfl)) f_nil))) (f_cst (by kernel_rfl)))))))) (fb_cons (fs_ret (f_cst (by kernel_rfl)))
  fb_nil) fb_nil)
  (fb_cons (fs_for o (pr := false) (t := (.nm 14)) (fun h => nomatch h) (q.same (by kernel_rfl)) (by kernel_rfl) (fi_val o (f_sl01 o (f_var o (by kernel_rfl) (by kernel_rfl) (by kernel_rfl)) (f_bm o (by kernel_rfl) (by kernel_rfl) (by kernel_rfl) (by decide +kernel) (by kernel_rfl) (f_var o (by kernel_rfl) (by kernel_rfl) (by kernel_rfl)) (f_cons (by kernel_rfl) (f_var o (by kernel_rfl) (by kernel_rfl) (by kernel_rfl)) f_nil)))) (fg_nm o (by kernel_rfl) (by kernel_rfl)) (fb_cons (fs_ite (L2.PW.pt (fw_or (ft_cmp o (by kernel_rfl) (by kernel_rfl) (f_idx o (by kernel_rfl) (f_dic1 o (by kernel_rfl) (by kernel_rfl) (f_prop o hWF (fs := fl0) (by kernel_rfl) (by decide +kernel) (by kernel_rfl) (by kernel_rfl) (f_var o (by kernel_rfl) (by kernel_rfl) (by kernel_rfl)))) (f_var o (by kernel_rfl) (by kernel_rfl) (by kernel_rfl))) (f_bm o (by kernel_rfl) (by kernel_rfl) (by kernel_rfl) (by decide +kernel) (by kernel_rfl) (f_bor o (by kernel_rfl) (by kernel_rfl) (by kernel_rfl)) (f_cons (by kernel_rfl) (f_var o (by kernel_rfl) (by kernel_rfl) (by kernel_rfl)) f_nil))) (fw_or1 (ft_cmp o (by kernel_rfl) (by kernel_rfl) (f_var o (by kernel_rfl) (by kernel_rfl) (by kernel_rfl)) (f_sl10 o (f_bor o (by kernel_rfl) (by kernel_rfl) (by kernel_rfl)) (f_bin o (by kernel_rfl) (f_var o (by kernel_rfl) (by kernel_rfl) (by kernel_rfl)) (f_cst (by kernel_rfl)))))))) (fb_cons (fs_ret (f_cst (by kernel_rfl)))
  fb_nil) fb_nil)
  fb_nil))
  (fb_cons (fs_ret (f_or (f_var o (by kernel_rfl) (by kernel_rfl) (by kernel_rfl)) (f_one (f_cmp o (by kernel_rfl) (by kernel_rfl) (f_var o (by kernel_rfl) (by kernel_rfl) (by kernel_rfl)) (f_lst f_nil)))))
  fb_nil))))))))))
def n26 : List Str := ["_law_script", "_law_row", "_law_turn", "_law_some", "_law_people_here", "_law_house_here", "_law_due", "_law_places_here", "_law_names", "_law_step", "_law_fault", "_law_name", "_law_place", "_law_holder", "_law_person"]
def s26 : Fs := { Sg with N := n26, sc := defScope (stA 33) }
theorem fit26 (o : Ok s26 c g CX0 (lv + 1) X) (q : PF c26.md P) : PSs X (defBody (stA 33)) (tS c WF P (evB g b26)) :=
  (fb_cons (fs_asg o (q.set (by kernel_rfl)) (by kernel_rfl) (by kernel_rfl) (by kernel_rfl) (f_lst (f_cons (by kernel_rfl) (f_var o (by kernel_rfl) (by kernel_rfl) (by kernel_rfl)) (f_cons (by kernel_rfl) (f_cst (by kernel_rfl)) (f_cons (by kernel_rfl) (f_cst (by kernel_rfl)) (f_cons (by kernel_rfl) (f_cst (by kernel_rfl)) f_nil))))))
  (fb_cons (fs_for o (pr := false) (t := (.nm 2)) (fun h => nomatch h) (q.same (by kernel_rfl)) (by kernel_rfl) (fi_rng1 o (by kernel_rfl) (by kernel_rfl) (f_cst (by kernel_rfl))) (fg_nm o (by kernel_rfl) (by kernel_rfl)) (fb_cons (fs_asg o (q.set (by kernel_rfl)) (by kernel_rfl) (by kernel_rfl) (by kernel_rfl) (f_call o (by kernel_rfl) (by kernel_rfl) (by kernel_rfl) (f_args1 (by kernel_rfl) (f_cons (by kernel_rfl) (f_bor o (by kernel_rfl) (by kernel_rfl) (by kernel_rfl)) (f_cons (by kernel_rfl) (f_cst (by kernel_rfl)) f_nil)))))
  (fb_cons (fs_par2 o (by decide +kernel) (q.two (by kernel_rfl) (by kernel_rfl)) (by kernel_rfl) (by kernel_rfl) (by kernel_rfl) (by kernel_rfl) (by kernel_rfl) (by kernel_rfl) (by kernel_rfl) (by kernel_rfl) (by kernel_rfl) (by kernel_rfl) (f_call o (by kernel_rfl) (by kernel_rfl) (by kernel_rfl) (f_args1 (by kernel_rfl) (f_cons (by kernel_rfl) (f_bor o (by kernel_rfl) (by kernel_rfl) (by kernel_rfl)) (f_cons (by kernel_rfl) (f_var o (by kernel_rfl) (by kernel_rfl) (by kernel_rfl)) (f_cons (by kernel_rfl) (f_cst (by kernel_rfl)) f_nil))))) (f_call o (by kernel_rfl) (by kernel_rfl) (by kernel_rfl) (f_args1 (by kernel_rfl) (f_cons (by kernel_rfl) (f_var o (by kernel_rfl) (by kernel_rfl) (by kernel_rfl)) f_nil))))
  (fb_cons (fs_asg o (q.set (by kernel_rfl)) (by kernel_rfl) (by kernel_rfl) (by kernel_rfl) (f_vals o (by kernel_rfl) (by kernel_rfl) (by kernel_rfl) (f_call o (by kernel_rfl) (by kernel_rfl) (by kernel_rfl) (f_args1 (by kernel_rfl) (f_cons (by kernel_rfl) (f_var o (by kernel_rfl) (by kernel_rfl) (by kernel_rfl)) (f_cons (by kernel_rfl) (f_var o (by kernel_rfl) (by kernel_rfl) (by kernel_rfl)) f_nil))))))
  (fb_cons (fs_par2 o (by decide +kernel) (q.two (by kernel_rfl) (by kernel_rfl)) (by kernel_rfl) (by kernel_rfl) (by kernel_rfl) (by kernel_rfl) (by kernel_rfl) (by kernel_rfl) (by kernel_rfl) (by kernel_rfl) (by kernel_rfl) (by kernel_rfl) (f_call o (by kernel_rfl) (by kernel_rfl) (by kernel_rfl) (f_args1 (by kernel_rfl) (f_cons (by kernel_rfl) (f_bor o (by kernel_rfl) (by kernel_rfl) (by kernel_rfl)) (f_cons (by kernel_rfl) (f_var o (by kernel_rfl) (by kernel_rfl) (by kernel_rfl)) (f_cons (by kernel_rfl) (f_var o (by kernel_rfl) (by kernel_rfl) (by kernel_rfl)) f_nil))))) (f_lc o (pr := false) (own := ([("_law_person", 14)] : List (Str × Nat))) (t := (.nm 14)) (fun h => nomatch h) (by kernel_rfl) (by kernel_rfl) (by kernel_rfl) (fi_val o (f_var o (by kernel_rfl) (by kernel_rfl) (by kernel_rfl))) (fun _ o' => (fg_nm o' (by kernel_rfl) (by kernel_rfl))) (fun _ o' => fp_nil) (fun _ o' => (f_idx o' (by kernel_rfl) (f_var o' (by kernel_rfl) (by kernel_rfl) (by kernel_rfl)) (f_cst (by kernel_rfl))))))
  (fb_cons (fs_ite (ft_cmp o (by kernel_rfl) (by kernel_rfl) (f_cmp o (by kernel_rfl) (by kernel_rfl) (f_call o (by kernel_rfl) (by kernel_rfl) (by kernel_rfl) (f_args1 (by kernel_rfl) (f_cons (by kernel_rfl) (f_var o (by kernel_rfl) (by kernel_rfl) (by kernel_rfl)) (f_cons (by kernel_rfl) (f_var o (by kernel_rfl) (by kernel_rfl) (by kernel_rfl)) (f_cons (by kernel_rfl) (f_tup1 o (by kernel_rfl) (by kernel_rfl) (f_bor o (by kernel_rfl) (by kernel_rfl) (by kernel_rfl))) f_nil))))) (f_cst (by kernel_rfl))) (f_cmp o (by kernel_rfl) (by kernel_rfl) (f_bor o (by kernel_rfl) (by kernel_rfl) (by kernel_rfl)) (f_var o (by kernel_rfl) (by kernel_rfl) (by kernel_rfl)))) (fb_cons (fs_ret (f_cst (by kernel_rfl)))
  fb_nil) fb_nil)
  (fb_cons (fs_for o (pr := false) (t := (.nm 9)) (fun h => nomatch h) (q.same (by kernel_rfl)) (by kernel_rfl) (fi_rng1 o (by kernel_rfl) (by kernel_rfl) (f_cst (by kernel_rfl))) (fg_nm o (by kernel_rfl) (by kernel_rfl)) (fb_cons (fs_asg o (q.set (by kernel_rfl)) (by kernel_rfl) (by kernel_rfl) (by kernel_rfl) (f_call o (by kernel_rfl) (by kernel_rfl) (by kernel_rfl) (f_args1 (by kernel_rfl) (f_cons (by kernel_rfl) (f_var o (by kernel_rfl) (by kernel_rfl) (by kernel_rfl)) (f_cons (by kernel_rfl) (f_var o (by kernel_rfl) (by kernel_rfl) (by kernel_rfl)) (f_cons (by kernel_rfl) (f_tup1 o (by kernel_rfl) (by kernel_rfl) (f_bor o (by kernel_rfl) (by kernel_rfl) (by kernel_rfl))) f_nil))))))
  (fb_cons (fs_ite (ft_cmp o (by kernel_rfl) (by kernel_rfl) (f_var o (by kernel_rfl) (by kernel_rfl) (by kernel_rfl)) (f_cst (by kernel_rfl))) (fb_cons (fs_ite (ft_not (ft_val o (by kernel_rfl) (f_call o (by kernel_rfl) (by kernel_rfl) (by kernel_rfl) (f_args1 (by kernel_rfl) (f_cons (by kernel_rfl) (f_var o (by kernel_rfl) (by kernel_rfl) (by kernel_rfl)) (f_cons (by kernel_rfl) (f_var o (by kernel_rfl) (by kernel_rfl) (by kernel_rfl)) (f_cons (by kernel_rfl) (f_bor o (by kernel_rfl) (by kernel_rfl) (by kernel_rfl)) (f_cons (by kernel_rfl) (f_var o (by kernel_rfl) (by kernel_rfl) (by kernel_rfl)) f_nil)))))))) (fb_cons (fs_ret (f_cst (by kernel_rfl)))
  fb_nil) fb_nil)
  (fb_cons (fs_asgT o (tg := (.tn [11, 12, 13])) (q.same (by kernel_rfl)) (by kernel_rfl) (by kernel_rfl) (by kernel_rfl) (fg_tn o (by kernel_rfl) (by kernel_rfl) (fg_cons o (by kernel_rfl) (by kernel_rfl) (fg_cons o (by kernel_rfl) (by kernel_rfl) (fg_cons o (by kernel_rfl) (by kernel_rfl) fg_nil)))) (f_var o (by kernel_rfl) (by kernel_rfl) (by kernel_rfl)))
  (fb_cons (fs_setI o (by kernel_rfl) (by kernel_rfl) (by kernel_rfl) (by kernel_rfl) (by kernel_rfl) (f_var o (by kernel_rfl) (by kernel_rfl) (by kernel_rfl)) (f_bm o (by kernel_rfl) (by kernel_rfl) (by kernel_rfl) (by decide +kernel) (by kernel_rfl) (f_var o (by kernel_rfl) (by kernel_rfl) (by kernel_rfl)) (f_cons (by kernel_rfl) (f_var o (by kernel_rfl) (by kernel_rfl) (by kernel_rfl)) f_nil)))
  (fb_cons (fs_ite (ft_cmp o (by kernel_rfl) (by kernel_rfl) (f_var o (by kernel_rfl) (by kernel_rfl) (by kernel_rfl)) (f_cst (by kernel_rfl))) (fb_cons (fs_setI o (by kernel_rfl) (by kernel_rfl) (by kernel_rfl) (by kernel_rfl) (by kernel_rfl) (f_cst (by kernel_rfl)) (f_bm o (by kernel_rfl) (by kernel_rfl) (by kernel_rfl) (by decide +kernel) (by kernel_rfl) (f_var o (by kernel_rfl) (by kernel_rfl) (by kernel_rfl)) (f_cons (by kernel_rfl) (f_var o (by kernel_rfl) (by kernel_rfl) (by kernel_rfl)) f_nil)))
  fb_nil) fb_nil)
  fb_nil)))) fb_nil)
  fb_nil)))
  (fb_cons (fs_ite (L2.PW.pt (fw_and (ft_cmp o (by kernel_rfl) (by kernel_rfl) (f_call o (by kernel_rfl) (by kernel_rfl) (by kernel_rfl) (f_args1 (by kernel_rfl) (f_cons (by kernel_rfl) (f_var o (by kernel_rfl) (by kernel_rfl) (by kernel_rfl)) (f_cons (by kernel_rfl) (f_var o (by kernel_rfl) (by kernel_rfl) (by kernel_rfl)) (f_cons (by kernel_rfl) (f_tup1 o (by kernel_rfl) (by kernel_rfl) (f_bor o (by kernel_rfl) (by kernel_rfl) (by kernel_rfl))) f_nil))))) (f_cst (by kernel_rfl))) (fw_and1 (ft_cmp o (by kernel_rfl) (by kernel_rfl) (f_bor o (by kernel_rfl) (by kernel_rfl) (by kernel_rfl)) (f_var o (by kernel_rfl) (by kernel_rfl) (by kernel_rfl)))))) (fb_cons (fs_ret (f_cst (by kernel_rfl)))
  fb_nil) fb_nil)
  (fb_cons (fs_ite (ft_cmp o (by kernel_rfl) (by kernel_rfl) (f_call o (by kernel_rfl) (by kernel_rfl) (by kernel_rfl) (f_args1 (by kernel_rfl) (f_cons (by kernel_rfl) (f_var o (by kernel_rfl) (by kernel_rfl) (by kernel_rfl)) (f_cons (by kernel_rfl) (f_var o (by kernel_rfl) (by kernel_rfl) (by kernel_rfl)) (f_cons (by kernel_rfl) (f_tup1 o (by kernel_rfl) (by kernel_rfl) (f_var o (by kernel_rfl) (by kernel_rfl) (by kernel_rfl))) f_nil))))) (f_cst (by kernel_rfl))) (fb_cons (fs_ret (f_cst (by kernel_rfl)))
  fb_nil) fb_nil)
  fb_nil)))))))))
  (fb_cons (fs_ret (f_cst (by kernel_rfl)))
  fb_nil)))
end
end MiP

set_option Elab.async false
set_option linter.all false
set_option maxRecDepth 100000
set_option maxHeartbeats 0
/-! the knot: each def by those that it calls; the head -/
namespace MiP
open PySem PySem.Spec L2 PyProof.Rows Mi
def d0 : He5.DefA := ⟨fun K => He.ga K "is_integer", "is_integer", "is_integer", defArgs (stA 14), defBody (stA 14), defScope (stA 14), [], []⟩
def d1 : He5.DefA := ⟨fun K => He.ga K "is_name", "is_name", "is_name", defArgs (stA 15), defBody (stA 15), defScope (stA 15), [], []⟩
def d2 : He5.DefA := ⟨fun K => He.ga K "is_place", "is_place", "is_place", defArgs (stA 16), defBody (stA 16), defScope (stA 16), [], []⟩
def d3 : He5.DefA := ⟨fun K => He.ma K (He.ga K "House") "__init__", "__init__", "House.__init__", defArgs (stM 17 0), defBody (stM 17 0), defScope (stM 17 0), [], []⟩
def d4 : He5.DefA := ⟨fun K => He5.wf K (He.ga K "House") "classmethod" "single", "single", "House.single", defArgs (stM 17 1), defBody (stM 17 1), defScope (stM 17 1), [], []⟩
def d5 : He5.DefA := ⟨fun K => pgA K (He.ga K "House") "places", "places", "House.places", defArgs (stM 17 2), defBody (stM 17 2), defScope (stM 17 2), [], []⟩
def d6 : He5.DefA := ⟨fun K => pgA K (He.ga K "House") "names", "names", "House.names", defArgs (stM 17 3), defBody (stM 17 3), defScope (stM 17 3), [], []⟩
def d7 : He5.DefA := ⟨fun K => He.ma K (He.ga K "House") "check_place", "check_place", "House.check_place", defArgs (stM 17 4), defBody (stM 17 4), defScope (stM 17 4), [], []⟩
def d8 : He5.DefA := ⟨fun K => He.ma K (He.ga K "House") "seats_at", "seats_at", "House.seats_at", defArgs (stM 17 5), defBody (stM 17 5), defScope (stM 17 5), [], []⟩
def d9 : He5.DefA := ⟨fun K => He.ma K (He.ga K "House") "with_seats", "with_seats", "House.with_seats", defArgs (stM 17 6), defBody (stM 17 6), defScope (stM 17 6), [], []⟩
def d10 : He5.DefA := ⟨fun K => He.ma K (He.ga K "House") "check_wishes", "check_wishes", "House.check_wishes", defArgs (stM 17 7), defBody (stM 17 7), defScope (stM 17 7), [], []⟩
def d11 : He5.DefA := ⟨fun K => He.ma K (He.ga K "House") "is_person", "is_person", "House.is_person", defArgs (stM 17 8), defBody (stM 17 8), defScope (stM 17 8), [], []⟩
def d12 : He5.DefA := ⟨fun K => He.ma K (He.ga K "House") "check_people", "check_people", "House.check_people", defArgs (stM 17 9), defBody (stM 17 9), defScope (stM 17 9), [], []⟩
def d13 : He5.DefA := ⟨fun K => He.ga K "rank_of", "rank_of", "rank_of", defArgs (stA 18), defBody (stA 18), defScope (stA 18), [], []⟩
def d14 : He5.DefA := ⟨fun K => He.ga K "takings_of", "takings_of", "takings_of", defArgs (stA 20), defBody (stA 20), defScope (stA 20), [], []⟩
def d15 : He5.DefA := ⟨fun K => He.ga K "choose", "choose", "choose", defArgs (stA 21), defBody (stA 21), defScope (stA 21), [], []⟩
def d16 : He5.DefA := ⟨fun K => He.ga K "free_of", "free_of", "free_of", defArgs (stA 22), defBody (stA 22), defScope (stA 22), [], []⟩
def d17 : He5.DefA := ⟨fun K => He.ga K "check_list", "check_list", "check_list", defArgs (stA 23), defBody (stA 23), defScope (stA 23), [], []⟩
def d18 : He5.DefA := ⟨fun K => He.ga K "first_fault", "first_fault", "first_fault", defArgs (stA 24), defBody (stA 24), defScope (stA 24), [], []⟩
def d19 : He5.DefA := ⟨fun K => He.ga K "_law_taken", "_law_taken", "_law_taken", defArgs (stA 26), defBody (stA 26), defScope (stA 26), [], []⟩
def d20 : He5.DefA := ⟨fun K => He.ga K "_law_places", "_law_places", "_law_places", defArgs (stA 27), defBody (stA 27), defScope (stA 27), [], []⟩
def d21 : He5.DefA := ⟨fun K => He.ga K "_law_wishes", "_law_wishes", "_law_wishes", defArgs (stA 28), defBody (stA 28), defScope (stA 28), [], []⟩
def d22 : He5.DefA := ⟨fun K => He.ga K "_law_people", "_law_people", "_law_people", defArgs (stA 29), defBody (stA 29), defScope (stA 29), [], []⟩
def d23 : He5.DefA := ⟨fun K => He.ga K "_law_house", "_law_house", "_law_house", defArgs (stA 30), defBody (stA 30), defScope (stA 30), [], []⟩
def d24 : He5.DefA := ⟨fun K => He.ga K "_law_list", "_law_list", "_law_list", defArgs (stA 31), defBody (stA 31), defScope (stA 31), [], []⟩
def d25 : He5.DefA := ⟨fun K => He.ga K "_law_is_fault", "_law_is_fault", "_law_is_fault", defArgs (stA 32), defBody (stA 32), defScope (stA 32), [], []⟩
def d26 : He5.DefA := ⟨fun K => He.ga K "law", "law", "law", defArgs (stA 33), defBody (stA 33), defScope (stA 33), [], []⟩
def dfs : List He5.DefA := [d0, d1, d2, d3, d4, d5, d6, d7, d8, d9, d10, d11, d12, d13, d14, d15, d16, d17, d18, d19, d20, d21, d22, d23, d24, d25, d26]
def exs : List (PySem.W.Frag → Bool) := [fun K => cmB K (He.ga K "House") "single", fun K => propB K (He.ga K "House") "places", fun K => propB K (He.ga K "House") "names"]
def fas : List He.Fa := [(.glo "is_integer"), (.glo "is_name"), (.glo "is_place"), (.glo "rank_of"), (.glo "choose"), (.glo "free_of"), (.glo "check_list"), (.glo "first_fault"), (.glo "_law_taken"), (.glo "_law_places"), (.glo "_law_wishes"), (.glo "_law_people"), (.glo "_law_house"), (.glo "_law_list"), (.glo "_law_is_fault"), (.glo "law"), (.glo "takings_of"), (.glo "House"), (.int "MAX_LETTERS" 8), (.str "LETTERS" "abcdefghijklmnopqrstuvwxyz"), (.int "MAX_SEATS" 9), (.int "MAX_PLACES" 8), (.int "MAX_PEOPLE" 12), (.free "len"), (.free "all"), (.free "int"), (.free "tuple"), (.free "list"), (.free "dict"), (.free "isinstance"), (.free "enumerate"), (.free "zip"), (.free "range"), (.free "bool"), (.free "str"), (.noat "House" "rows"), (.noat "House" "known"), (.cls "House"), (.mkr "House"), (.meth "House" "check_place"), (.meth "House" "seats_at"), (.meth "House" "with_seats"), (.meth "House" "check_wishes"), (.meth "House" "is_person"), (.meth "House" "check_people")]
/-- what each def promises, n calls deep -/
structure Al (P : Program) (w : World) (K : PySem.W.Frag) (mg : Str → Option Value) (base : Heap) (c : Cn) (wf n : Nat) : Prop where
  p0 : FnR P w K mg base CX0 (2 * n + 2) (d0.at_ K) (spOf c (Gn text wf n) 0)
  p1 : FnR P w K mg base CX0 (2 * n + 2) (d1.at_ K) (spOf c (Gn text wf n) 1)
  p2 : FnR P w K mg base CX0 (2 * n + 2) (d2.at_ K) (spOf c (Gn text wf n) 2)
  p3 : FnR P w K mg base CX0 (2 * n + 2) (d3.at_ K) (spOf c (Gn text wf n) 3)
  p4 : FnR P w K mg base CX0 (2 * n + 2) (d4.at_ K) (spOf c (Gn text wf n) 4)
  p5 : FnR P w K mg base CX0 (2 * n + 2) (d5.at_ K) (spOf c (Gn text wf n) 5)
  p6 : FnR P w K mg base CX0 (2 * n + 2) (d6.at_ K) (spOf c (Gn text wf n) 6)
  p7 : FnR P w K mg base CX0 (2 * n + 2) (d7.at_ K) (spOf c (Gn text wf n) 7)
  p8 : FnR P w K mg base CX0 (2 * n + 2) (d8.at_ K) (spOf c (Gn text wf n) 8)
  p9 : FnR P w K mg base CX0 (2 * n + 2) (d9.at_ K) (spOf c (Gn text wf n) 9)
  p10 : FnR P w K mg base CX0 (2 * n + 2) (d10.at_ K) (spOf c (Gn text wf n) 10)
  p11 : FnR P w K mg base CX0 (2 * n + 2) (d11.at_ K) (spOf c (Gn text wf n) 11)
  p12 : FnR P w K mg base CX0 (2 * n + 2) (d12.at_ K) (spOf c (Gn text wf n) 12)
  p13 : FnR P w K mg base CX0 (2 * n + 2) (d13.at_ K) (spOf c (Gn text wf n) 13)
  p14 : GnR c (Gn text wf n) 14 P w K mg base (2 * n + 2) (d14.at_ K)
  p15 : FnR P w K mg base CX0 (2 * n + 2) (d15.at_ K) (spOf c (Gn text wf n) 15)
  p16 : FnR P w K mg base CX0 (2 * n + 2) (d16.at_ K) (spOf c (Gn text wf n) 16)
  p17 : FnR P w K mg base CX0 (2 * n + 2) (d17.at_ K) (spOf c (Gn text wf n) 17)
  p18 : FnR P w K mg base CX0 (2 * n + 2) (d18.at_ K) (spOf c (Gn text wf n) 18)
  p19 : FnR P w K mg base CX0 (2 * n + 2) (d19.at_ K) (spOf c (Gn text wf n) 19)
  p20 : FnR P w K mg base CX0 (2 * n + 2) (d20.at_ K) (spOf c (Gn text wf n) 20)
  p21 : FnR P w K mg base CX0 (2 * n + 2) (d21.at_ K) (spOf c (Gn text wf n) 21)
  p22 : FnR P w K mg base CX0 (2 * n + 2) (d22.at_ K) (spOf c (Gn text wf n) 22)
  p23 : FnR P w K mg base CX0 (2 * n + 2) (d23.at_ K) (spOf c (Gn text wf n) 23)
  p24 : FnR P w K mg base CX0 (2 * n + 2) (d24.at_ K) (spOf c (Gn text wf n) 24)
  p25 : FnR P w K mg base CX0 (2 * n + 2) (d25.at_ K) (spOf c (Gn text wf n) 25)
  p26 : FnR P w K mg base CX0 (2 * n + 2) (d26.at_ K) (spOf c (Gn text wf n) 26)
def cOf (K : PySem.W.Frag) : Cn where
  K := K
  C := fun i => match i with
    | 0 => He.ga K "House"
    | _ => 0
  fl := fun i => match i with
    | 0 => fl0
    | _ => []
  X := fun _ => 0
  xf := fun _ => []
section
variable {P : Program} {w : World} {K : PySem.W.Frag} {mg : Str → Option Value} {base h : Heap} {wf n : Nat}
theorem gf (KX : K.In h) (GX : h.Ns mainGlobals mg) (cF : SaysM exs fas dfs K) (A : Al P w K mg base (cOf K) wf n) : Gf Sg (cOf K) (Gn text wf n) (2 * n + 2) P w K mg base where
  k := rfl
  fn := fun x j hl => (show ∀ q ∈ Sg.fnOf, ∃ f, mg q.1 = some (.ref f) ∧ PySem.W.keepIn K (.ref f) = true ∧ FnR P w K mg base CX0 (2 * n + 2) f (spOf (cOf K) (Gn text wf n) q.2) from (List.forall_mem_cons.mpr ⟨⟨_, (He.glo_ok KX GX (cF.a.fact 0 (f := (.glo "is_integer")) rfl)), (let ⟨_, t⟩ := cF.a.def_ 0 (d := d0) rfl; t.kp), A.p0⟩,
    (List.forall_mem_cons.mpr ⟨⟨_, (He.glo_ok KX GX (cF.a.fact 1 (f := (.glo "is_name")) rfl)), (let ⟨_, t⟩ := cF.a.def_ 1 (d := d1) rfl; t.kp), A.p1⟩,
    (List.forall_mem_cons.mpr ⟨⟨_, (He.glo_ok KX GX (cF.a.fact 2 (f := (.glo "is_place")) rfl)), (let ⟨_, t⟩ := cF.a.def_ 2 (d := d2) rfl; t.kp), A.p2⟩,
    (List.forall_mem_cons.mpr ⟨⟨_, (He.glo_ok KX GX (cF.a.fact 3 (f := (.glo "rank_of")) rfl)), (let ⟨_, t⟩ := cF.a.def_ 13 (d := d13) rfl; t.kp), A.p13⟩,
    (List.forall_mem_cons.mpr ⟨⟨_, (He.glo_ok KX GX (cF.a.fact 4 (f := (.glo "choose")) rfl)), (let ⟨_, t⟩ := cF.a.def_ 15 (d := d15) rfl; t.kp), A.p15⟩,
    (List.forall_mem_cons.mpr ⟨⟨_, (He.glo_ok KX GX (cF.a.fact 5 (f := (.glo "free_of")) rfl)), (let ⟨_, t⟩ := cF.a.def_ 16 (d := d16) rfl; t.kp), A.p16⟩,
    (List.forall_mem_cons.mpr ⟨⟨_, (He.glo_ok KX GX (cF.a.fact 6 (f := (.glo "check_list")) rfl)), (let ⟨_, t⟩ := cF.a.def_ 17 (d := d17) rfl; t.kp), A.p17⟩,
    (List.forall_mem_cons.mpr ⟨⟨_, (He.glo_ok KX GX (cF.a.fact 7 (f := (.glo "first_fault")) rfl)), (let ⟨_, t⟩ := cF.a.def_ 18 (d := d18) rfl; t.kp), A.p18⟩,
    (List.forall_mem_cons.mpr ⟨⟨_, (He.glo_ok KX GX (cF.a.fact 8 (f := (.glo "_law_taken")) rfl)), (let ⟨_, t⟩ := cF.a.def_ 19 (d := d19) rfl; t.kp), A.p19⟩,
    (List.forall_mem_cons.mpr ⟨⟨_, (He.glo_ok KX GX (cF.a.fact 9 (f := (.glo "_law_places")) rfl)), (let ⟨_, t⟩ := cF.a.def_ 20 (d := d20) rfl; t.kp), A.p20⟩,
    (List.forall_mem_cons.mpr ⟨⟨_, (He.glo_ok KX GX (cF.a.fact 10 (f := (.glo "_law_wishes")) rfl)), (let ⟨_, t⟩ := cF.a.def_ 21 (d := d21) rfl; t.kp), A.p21⟩,
    (List.forall_mem_cons.mpr ⟨⟨_, (He.glo_ok KX GX (cF.a.fact 11 (f := (.glo "_law_people")) rfl)), (let ⟨_, t⟩ := cF.a.def_ 22 (d := d22) rfl; t.kp), A.p22⟩,
    (List.forall_mem_cons.mpr ⟨⟨_, (He.glo_ok KX GX (cF.a.fact 12 (f := (.glo "_law_house")) rfl)), (let ⟨_, t⟩ := cF.a.def_ 23 (d := d23) rfl; t.kp), A.p23⟩,
    (List.forall_mem_cons.mpr ⟨⟨_, (He.glo_ok KX GX (cF.a.fact 13 (f := (.glo "_law_list")) rfl)), (let ⟨_, t⟩ := cF.a.def_ 24 (d := d24) rfl; t.kp), A.p24⟩,
    (List.forall_mem_cons.mpr ⟨⟨_, (He.glo_ok KX GX (cF.a.fact 14 (f := (.glo "_law_is_fault")) rfl)), (let ⟨_, t⟩ := cF.a.def_ 25 (d := d25) rfl; t.kp), A.p25⟩,
    (List.forall_mem_cons.mpr ⟨⟨_, (He.glo_ok KX GX (cF.a.fact 15 (f := (.glo "law")) rfl)), (let ⟨_, t⟩ := cF.a.def_ 26 (d := d26) rfl; t.kp), A.p26⟩,
    (List.forall_mem_nil _)⟩)⟩)⟩)⟩)⟩)⟩)⟩)⟩)⟩)⟩)⟩)⟩)⟩)⟩)⟩)⟩)) _ (lk_mem hl)
  gn := fun x j hl => (show ∀ q ∈ Sg.gnOf, ∃ f, mg q.1 = some (.ref f) ∧ PySem.W.keepIn K (.ref f) = true ∧ GnR (cOf K) (Gn text wf n) q.2 P w K mg base (2 * n + 2) f ∧ (Gn text wf n).va q.2 = false from (List.forall_mem_cons.mpr ⟨⟨_, (He.glo_ok KX GX (cF.a.fact 16 (f := (.glo "takings_of")) rfl)), (let ⟨_, t⟩ := cF.a.def_ 14 (d := d14) rfl; t.kp), A.p14, rfl⟩,
    (List.forall_mem_nil _)⟩)) _ (lk_mem hl)
  cl := fun x i hl => (show ∀ q ∈ Sg.clOf, mg q.1 = some (.ref ((cOf K).C q.2)) from (List.forall_mem_cons.mpr ⟨(He.glo_ok KX GX (cF.a.fact 17 (f := (.glo "House")) rfl)),
    (List.forall_mem_nil _)⟩)) _ (lk_mem hl)
  ct := fun x d hl => (show ∀ q ∈ Sg.ctOf, ∃ u v, mg q.1 = some u ∧ RelV v u ∧ ∀ F H, Rep (cOf K) F H q.2 v from (List.forall_mem_cons.mpr ⟨(let ⟨t, e⟩ := He.int_ok KX GX (cF.a.fact 18 (f := (.int "MAX_LETTERS" 8)) rfl); ⟨_, .int 8, e, ⟨t, rfl⟩, fun _ _ => .int _⟩),
    (List.forall_mem_cons.mpr ⟨(let ⟨t, e⟩ := He.str_ok KX GX (cF.a.fact 19 (f := (.str "LETTERS" "abcdefghijklmnopqrstuvwxyz")) rfl); ⟨_, .str "abcdefghijklmnopqrstuvwxyz", e, ⟨t, rfl⟩, fun _ _ => .str _⟩),
    (List.forall_mem_cons.mpr ⟨(let ⟨t, e⟩ := He.int_ok KX GX (cF.a.fact 20 (f := (.int "MAX_SEATS" 9)) rfl); ⟨_, .int 9, e, ⟨t, rfl⟩, fun _ _ => .int _⟩),
    (List.forall_mem_cons.mpr ⟨(let ⟨t, e⟩ := He.int_ok KX GX (cF.a.fact 21 (f := (.int "MAX_PLACES" 8)) rfl); ⟨_, .int 8, e, ⟨t, rfl⟩, fun _ _ => .int _⟩),
    (List.forall_mem_cons.mpr ⟨(let ⟨t, e⟩ := He.int_ok KX GX (cF.a.fact 22 (f := (.int "MAX_PEOPLE" 12)) rfl); ⟨_, .int 12, e, ⟨t, rfl⟩, fun _ _ => .int _⟩),
    (List.forall_mem_nil _)⟩)⟩)⟩)⟩)⟩)) _ (lk_mem hl)
  bl := (List.forall_mem_cons.mpr ⟨(He.free_ok KX GX (cF.a.fact 23 (f := (.free "len")) rfl)),
    (List.forall_mem_cons.mpr ⟨(He.free_ok KX GX (cF.a.fact 24 (f := (.free "all")) rfl)),
    (List.forall_mem_cons.mpr ⟨(He.free_ok KX GX (cF.a.fact 25 (f := (.free "int")) rfl)),
    (List.forall_mem_cons.mpr ⟨(He.free_ok KX GX (cF.a.fact 26 (f := (.free "tuple")) rfl)),
    (List.forall_mem_cons.mpr ⟨(He.free_ok KX GX (cF.a.fact 27 (f := (.free "list")) rfl)),
    (List.forall_mem_cons.mpr ⟨(He.free_ok KX GX (cF.a.fact 28 (f := (.free "dict")) rfl)),
    (List.forall_mem_cons.mpr ⟨(He.free_ok KX GX (cF.a.fact 29 (f := (.free "isinstance")) rfl)),
    (List.forall_mem_cons.mpr ⟨(He.free_ok KX GX (cF.a.fact 30 (f := (.free "enumerate")) rfl)),
    (List.forall_mem_cons.mpr ⟨(He.free_ok KX GX (cF.a.fact 31 (f := (.free "zip")) rfl)),
    (List.forall_mem_cons.mpr ⟨(He.free_ok KX GX (cF.a.fact 32 (f := (.free "range")) rfl)),
    (List.forall_mem_cons.mpr ⟨(He.free_ok KX GX (cF.a.fact 33 (f := (.free "bool")) rfl)),
    (List.forall_mem_cons.mpr ⟨(He.free_ok KX GX (cF.a.fact 34 (f := (.free "str")) rfl)),
    (List.forall_mem_nil _)⟩)⟩)⟩)⟩)⟩)⟩)⟩)⟩)⟩)⟩)⟩)⟩)
  fl := fun i fs hl => match i, hl with
    | 0, hl => by cases hl; exact ⟨rfl, (by decide +kernel), He.cls_ok (cF.a.fact 37 (f := (.cls "House")) rfl), (List.forall_mem_cons.mpr ⟨(He.noat_ok (cF.a.fact 35 (f := (.noat "House" "rows")) rfl)),
    (List.forall_mem_cons.mpr ⟨(He.noat_ok (cF.a.fact 36 (f := (.noat "House" "known")) rfl)),
    (List.forall_mem_nil _)⟩)⟩)⟩
    | _ + 1, hl => nomatch hl
  init := fun i j hl => (show ∀ q ∈ Sg.inits, ∃ f, Mk K ((cOf K).C q.1) f ∧ FnR P w K mg base CX0 (2 * n + 2) f (spOf (cOf K) (Gn text wf n) q.2) from (List.forall_mem_cons.mpr ⟨⟨_, He.mkr_ok (cF.a.fact 38 (f := (.mkr "House")) rfl), A.p3⟩,
    (List.forall_mem_nil _)⟩)) _ (lk_mem hl)
  meth := fun i m j hl => (show ∀ q ∈ Sg.meths, ∃ f, Meth K ((cOf K).C q.1.1) q.1.2 f ∧ FnR P w K mg base CX0 (2 * n + 2) f (spOf (cOf K) (Gn text wf n) q.2) from (List.forall_mem_cons.mpr ⟨⟨_, He.meth_ok (cF.a.fact 39 (f := (.meth "House" "check_place")) rfl), A.p7⟩,
    (List.forall_mem_cons.mpr ⟨⟨_, He.meth_ok (cF.a.fact 40 (f := (.meth "House" "seats_at")) rfl), A.p8⟩,
    (List.forall_mem_cons.mpr ⟨⟨_, He.meth_ok (cF.a.fact 41 (f := (.meth "House" "with_seats")) rfl), A.p9⟩,
    (List.forall_mem_cons.mpr ⟨⟨_, He.meth_ok (cF.a.fact 42 (f := (.meth "House" "check_wishes")) rfl), A.p10⟩,
    (List.forall_mem_cons.mpr ⟨⟨_, He.meth_ok (cF.a.fact 43 (f := (.meth "House" "is_person")) rfl), A.p11⟩,
    (List.forall_mem_cons.mpr ⟨⟨_, He.meth_ok (cF.a.fact 44 (f := (.meth "House" "check_people")) rfl), A.p12⟩,
    (List.forall_mem_nil _)⟩)⟩)⟩)⟩)⟩)⟩)) _ (lk_mem hl)
  prop := fun i m j hl => (show ∀ q ∈ Sg.props, ∃ p f, PropOf K ((cOf K).C q.1.1) q.1.2 p f ∧ FnR P w K mg base CX0 (2 * n + 2) f (spOf (cOf K) (Gn text wf n) q.2) from (List.forall_mem_cons.mpr ⟨⟨_, _, propB_ok (cF.x 1 rfl), A.p5⟩,
    (List.forall_mem_cons.mpr ⟨⟨_, _, propB_ok (cF.x 2 rfl), A.p6⟩,
    (List.forall_mem_nil _)⟩)⟩)) _ (lk_mem hl)
  cmeth := fun i m j hl => (show ∀ q ∈ Sg.cmeths, ∃ mc p f, ClX.CRead K ((cOf K).C q.1.1) mc ∧ ClX.CMet K ((cOf K).C q.1.1) mc q.1.2 p f ∧ FnR P w K mg base CX0 (2 * n + 2) f (spOf (cOf K) (Gn text wf n) q.2) from (List.forall_mem_cons.mpr ⟨⟨_, _, _, (cmB_ok (cF.x 0 rfl)).1, (cmB_ok (cF.x 0 rfl)).2, A.p4⟩,
    (List.forall_mem_nil _)⟩)) _ (lk_mem hl)
theorem sc0 : FnScope n0 ["value", "low", "high"] (defScope (stA 14)) := ⟨rfl, rfl, rfl, (by decide +kernel), rfl, (by decide +kernel), (by decide +kernel)⟩
theorem sc1 : FnScope n1 ["value"] (defScope (stA 15)) := ⟨rfl, rfl, rfl, (by decide +kernel), rfl, (by decide +kernel), (by decide +kernel)⟩
theorem sc2 : FnScope n2 ["value"] (defScope (stA 16)) := ⟨rfl, rfl, rfl, (by decide +kernel), rfl, (by decide +kernel), (by decide +kernel)⟩
theorem sc3 : FnScope n3 ((["self"] : List Str) ++ (["places"] : List Str)) (defScope (stM 17 0)) := ⟨rfl, rfl, rfl, (by decide +kernel), rfl, (by decide +kernel), (by decide +kernel)⟩
theorem sc4 : FnScope n4 ((["cls"] : List Str) ++ (["names"] : List Str)) (defScope (stM 17 1)) := ⟨rfl, rfl, rfl, (by decide +kernel), rfl, (by decide +kernel), (by decide +kernel)⟩
theorem sc5 : FnScope n5 ["self"] (defScope (stM 17 2)) := ⟨rfl, rfl, rfl, (by decide +kernel), rfl, (by decide +kernel), (by decide +kernel)⟩
theorem sc6 : FnScope n6 ["self"] (defScope (stM 17 3)) := ⟨rfl, rfl, rfl, (by decide +kernel), rfl, (by decide +kernel), (by decide +kernel)⟩
theorem sc7 : FnScope n7 ["self", "name"] (defScope (stM 17 4)) := ⟨rfl, rfl, rfl, (by decide +kernel), rfl, (by decide +kernel), (by decide +kernel)⟩
theorem sc8 : FnScope n8 ["self", "name"] (defScope (stM 17 5)) := ⟨rfl, rfl, rfl, (by decide +kernel), rfl, (by decide +kernel), (by decide +kernel)⟩
theorem sc9 : FnScope n9 ["self", "name", "seats"] (defScope (stM 17 6)) := ⟨rfl, rfl, rfl, (by decide +kernel), rfl, (by decide +kernel), (by decide +kernel)⟩
theorem sc10 : FnScope n10 ["self", "wishes"] (defScope (stM 17 7)) := ⟨rfl, rfl, rfl, (by decide +kernel), rfl, (by decide +kernel), (by decide +kernel)⟩
theorem sc11 : FnScope n11 ["self", "value"] (defScope (stM 17 8)) := ⟨rfl, rfl, rfl, (by decide +kernel), rfl, (by decide +kernel), (by decide +kernel)⟩
theorem sc12 : FnScope n12 ["self", "people"] (defScope (stM 17 9)) := ⟨rfl, rfl, rfl, (by decide +kernel), rfl, (by decide +kernel), (by decide +kernel)⟩
theorem sc13 : FnScope n13 ["wishes", "place"] (defScope (stA 18)) := ⟨rfl, rfl, rfl, (by decide +kernel), rfl, (by decide +kernel), (by decide +kernel)⟩
theorem sc14 : GScope n14 ["house", "people"] (defScope (stA 20)) := ⟨rfl, rfl, rfl, (by decide +kernel), rfl, (by decide +kernel), (by decide +kernel)⟩
theorem sc15 : FnScope n15 ["house", "people"] (defScope (stA 21)) := ⟨rfl, rfl, rfl, (by decide +kernel), rfl, (by decide +kernel), (by decide +kernel)⟩
theorem sc16 : FnScope n16 ["house", "places"] (defScope (stA 22)) := ⟨rfl, rfl, rfl, (by decide +kernel), rfl, (by decide +kernel), (by decide +kernel)⟩
theorem sc17 : FnScope n17 ["house", "people", "places"] (defScope (stA 23)) := ⟨rfl, rfl, rfl, (by decide +kernel), rfl, (by decide +kernel), (by decide +kernel)⟩
theorem sc18 : FnScope n18 ["house", "people", "places"] (defScope (stA 24)) := ⟨rfl, rfl, rfl, (by decide +kernel), rfl, (by decide +kernel), (by decide +kernel)⟩
theorem sc19 : FnScope n19 ["_law_row", "_law_many"] (defScope (stA 26)) := ⟨rfl, rfl, rfl, (by decide +kernel), rfl, (by decide +kernel), (by decide +kernel)⟩
theorem sc20 : FnScope n20 ["_law_row", "_law_most"] (defScope (stA 27)) := ⟨rfl, rfl, rfl, (by decide +kernel), rfl, (by decide +kernel), (by decide +kernel)⟩
theorem sc21 : FnScope n21 ["_law_row", "_law_places_here"] (defScope (stA 28)) := ⟨rfl, rfl, rfl, (by decide +kernel), rfl, (by decide +kernel), (by decide +kernel)⟩
theorem sc22 : FnScope n22 ["_law_row", "_law_places_here", "_law_most"] (defScope (stA 29)) := ⟨rfl, rfl, rfl, (by decide +kernel), rfl, (by decide +kernel), (by decide +kernel)⟩
theorem sc23 : FnScope n23 ["_law_places_here"] (defScope (stA 30)) := ⟨rfl, rfl, rfl, (by decide +kernel), rfl, (by decide +kernel), (by decide +kernel)⟩
theorem sc24 : FnScope n24 ["_law_row", "_law_house_here", "_law_people_here"] (defScope (stA 31)) := ⟨rfl, rfl, rfl, (by decide +kernel), rfl, (by decide +kernel), (by decide +kernel)⟩
theorem sc25 : FnScope n25 ["_law_house_here", "_law_people_here", "_law_places_here", "_law_fault"] (defScope (stA 32)) := ⟨rfl, rfl, rfl, (by decide +kernel), rfl, (by decide +kernel), (by decide +kernel)⟩
theorem sc26 : FnScope n26 ["_law_script"] (defScope (stA 33)) := ⟨rfl, rfl, rfl, (by decide +kernel), rfl, (by decide +kernel), (by decide +kernel)⟩
theorem al_zero : Al P w K mg base (cOf K) wf 0 := ⟨fn_zero, fn_zero, fn_zero, fn_zero, fn_zero, fn_zero, fn_zero, fn_zero, fn_zero, fn_zero, fn_zero, fn_zero, fn_zero, fn_zero, gn_zero, fn_zero, fn_zero, fn_zero, fn_zero, fn_zero, fn_zero, fn_zero, fn_zero, fn_zero, fn_zero, fn_zero, fn_zero⟩
theorem al_step (KX : K.In h) (GX : h.Ns mainGlobals mg) (cF : SaysM exs fas dfs K) (A : Al P w K mg base (cOf K) wf n) : Al P w K mg base (cOf K) wf (n + 1) where
  p0 := (let ⟨_, t⟩ := cF.a.def_ 0 (d := d0) rfl; step_fn (F := c0) (N := n0) (ps := ["value", "low", "high"]) (lv := 2 * n + 1) rfl (gf KX GX cF A) t sc0 (by kernel_rfl) rfl (by kernel_rfl) (fun _ _ _ _ _ _ us hl => match us, hl with | [_, _, _], _ => rfl) fun o q => fit0 o q).mono (by omega)
  p1 := (let ⟨_, t⟩ := cF.a.def_ 1 (d := d1) rfl; step_fn (F := c1) (N := n1) (ps := ["value"]) (lv := 2 * n + 1) rfl (gf KX GX cF A) t sc1 (by kernel_rfl) rfl (by kernel_rfl) (fun _ _ _ _ _ _ us hl => match us, hl with | [_], _ => rfl) fun o q => fit1 o q).mono (by omega)
  p2 := (let ⟨_, t⟩ := cF.a.def_ 2 (d := d2) rfl; step_fn (F := c2) (N := n2) (ps := ["value"]) (lv := 2 * n + 1) rfl (gf KX GX cF A) t sc2 (by kernel_rfl) rfl (by kernel_rfl) (fun _ _ _ _ _ _ us hl => match us, hl with | [_], _ => rfl) fun o q => fit2 o q).mono (by omega)
  p3 := (let ⟨_, t⟩ := cF.a.def_ 3 (d := d3) rfl; step_fnS (pv := "places") (F := c3) (N := n3) (ps := ["self"]) (lv := 2 * n + 1) rfl (gf KX GX cF A) t sc3 (by kernel_rfl) rfl (by kernel_rfl) (fun _ _ _ _ _ _ us rest hl => match us, hl, rest with
    | [_], _, [] => rfl
    | [_], _, _ :: _ => rfl) fun o q => fit3 o q).mono (by omega)
  p4 := (let ⟨_, t⟩ := cF.a.def_ 4 (d := d4) rfl; step_fnS (pv := "names") (F := c4) (N := n4) (ps := ["cls"]) (lv := 2 * n + 1) rfl (gf KX GX cF A) t sc4 (by kernel_rfl) rfl (by kernel_rfl) (fun _ _ _ _ _ _ us rest hl => match us, hl, rest with
    | [_], _, [] => rfl
    | [_], _, _ :: _ => rfl) fun o q => fit4 o q).mono (by omega)
  p5 := (let ⟨_, t⟩ := cF.a.def_ 5 (d := d5) rfl; step_fn (F := c5) (N := n5) (ps := ["self"]) (lv := 2 * n + 1) rfl (gf KX GX cF A) t sc5 (by kernel_rfl) rfl (by kernel_rfl) (fun _ _ _ _ _ _ us hl => match us, hl with | [_], _ => rfl) fun o q => fit5 o q).mono (by omega)
  p6 := (let ⟨_, t⟩ := cF.a.def_ 6 (d := d6) rfl; step_fn (F := c6) (N := n6) (ps := ["self"]) (lv := 2 * n + 1) rfl (gf KX GX cF A) t sc6 (by kernel_rfl) rfl (by kernel_rfl) (fun _ _ _ _ _ _ us hl => match us, hl with | [_], _ => rfl) fun o q => fit6 o q).mono (by omega)
  p7 := (let ⟨_, t⟩ := cF.a.def_ 7 (d := d7) rfl; step_fn (F := c7) (N := n7) (ps := ["self", "name"]) (lv := 2 * n + 1) rfl (gf KX GX cF A) t sc7 (by kernel_rfl) rfl (by kernel_rfl) (fun _ _ _ _ _ _ us hl => match us, hl with | [_, _], _ => rfl) fun o q => fit7 o q).mono (by omega)
  p8 := (let ⟨_, t⟩ := cF.a.def_ 8 (d := d8) rfl; step_fn (F := c8) (N := n8) (ps := ["self", "name"]) (lv := 2 * n + 1) rfl (gf KX GX cF A) t sc8 (by kernel_rfl) rfl (by kernel_rfl) (fun _ _ _ _ _ _ us hl => match us, hl with | [_, _], _ => rfl) fun o q => fit8 o q).mono (by omega)
  p9 := (let ⟨_, t⟩ := cF.a.def_ 9 (d := d9) rfl; step_fn (F := c9) (N := n9) (ps := ["self", "name", "seats"]) (lv := 2 * n + 1) rfl (gf KX GX cF A) t sc9 (by kernel_rfl) rfl (by kernel_rfl) (fun _ _ _ _ _ _ us hl => match us, hl with | [_, _, _], _ => rfl) fun o q => fit9 o q).mono (by omega)
  p10 := (let ⟨_, t⟩ := cF.a.def_ 10 (d := d10) rfl; step_fn (F := c10) (N := n10) (ps := ["self", "wishes"]) (lv := 2 * n + 1) rfl (gf KX GX cF A) t sc10 (by kernel_rfl) rfl (by kernel_rfl) (fun _ _ _ _ _ _ us hl => match us, hl with | [_, _], _ => rfl) fun o q => fit10 o q).mono (by omega)
  p11 := (let ⟨_, t⟩ := cF.a.def_ 11 (d := d11) rfl; step_fn (F := c11) (N := n11) (ps := ["self", "value"]) (lv := 2 * n + 1) rfl (gf KX GX cF A) t sc11 (by kernel_rfl) rfl (by kernel_rfl) (fun _ _ _ _ _ _ us hl => match us, hl with | [_, _], _ => rfl) fun o q => fit11 o q).mono (by omega)
  p12 := (let ⟨_, t⟩ := cF.a.def_ 12 (d := d12) rfl; step_fn (F := c12) (N := n12) (ps := ["self", "people"]) (lv := 2 * n + 1) rfl (gf KX GX cF A) t sc12 (by kernel_rfl) rfl (by kernel_rfl) (fun _ _ _ _ _ _ us hl => match us, hl with | [_, _], _ => rfl) fun o q => fit12 o q).mono (by omega)
  p13 := (let ⟨_, t⟩ := cF.a.def_ 13 (d := d13) rfl; step_fn (F := c13) (N := n13) (ps := ["wishes", "place"]) (lv := 2 * n + 1) rfl (gf KX GX cF A) t sc13 (by kernel_rfl) rfl (by kernel_rfl) (fun _ _ _ _ _ _ us hl => match us, hl with | [_, _], _ => rfl) fun o q => fit13 o q).mono (by omega)
  p14 := (let ⟨_, t⟩ := cF.a.def_ 14 (d := d14) rfl; step_gn (F := c14) (N := n14) (ps := ["house", "people"]) (lv := 2 * n + 1) rfl (gf KX GX cF A) t sc14 (by kernel_rfl) (by kernel_rfl) (by kernel_rfl) (by kernel_rfl) (fun _ _ _ _ _ _ us hl => match us, hl with | [_, _], _ => rfl) fun gk hK hc O => fit14 gk hK hc O).mono (by omega)
  p15 := (let ⟨_, t⟩ := cF.a.def_ 15 (d := d15) rfl; step_fn (F := c15) (N := n15) (ps := ["house", "people"]) (lv := 2 * n + 1) rfl (gf KX GX cF A) t sc15 (by kernel_rfl) rfl (by kernel_rfl) (fun _ _ _ _ _ _ us hl => match us, hl with | [_, _], _ => rfl) fun o q => fit15 o q).mono (by omega)
  p16 := (let ⟨_, t⟩ := cF.a.def_ 16 (d := d16) rfl; step_fn (F := c16) (N := n16) (ps := ["house", "places"]) (lv := 2 * n + 1) rfl (gf KX GX cF A) t sc16 (by kernel_rfl) rfl (by kernel_rfl) (fun _ _ _ _ _ _ us hl => match us, hl with | [_, _], _ => rfl) fun o q => fit16 o q).mono (by omega)
  p17 := (let ⟨_, t⟩ := cF.a.def_ 17 (d := d17) rfl; step_fn (F := c17) (N := n17) (ps := ["house", "people", "places"]) (lv := 2 * n + 1) rfl (gf KX GX cF A) t sc17 (by kernel_rfl) rfl (by kernel_rfl) (fun _ _ _ _ _ _ us hl => match us, hl with | [_, _, _], _ => rfl) fun o q => fit17 o q).mono (by omega)
  p18 := (let ⟨_, t⟩ := cF.a.def_ 18 (d := d18) rfl; step_fn (F := c18) (N := n18) (ps := ["house", "people", "places"]) (lv := 2 * n + 1) rfl (gf KX GX cF A) t sc18 (by kernel_rfl) rfl (by kernel_rfl) (fun _ _ _ _ _ _ us hl => match us, hl with | [_, _, _], _ => rfl) fun o q => fit18 o q).mono (by omega)
  p19 := (let ⟨_, t⟩ := cF.a.def_ 19 (d := d19) rfl; step_fn (F := c19) (N := n19) (ps := ["_law_row", "_law_many"]) (lv := 2 * n + 1) rfl (gf KX GX cF A) t sc19 (by kernel_rfl) rfl (by kernel_rfl) (fun _ _ _ _ _ _ us hl => match us, hl with | [_, _], _ => rfl) fun o q => fit19 o q).mono (by omega)
  p20 := (let ⟨_, t⟩ := cF.a.def_ 20 (d := d20) rfl; step_fn (F := c20) (N := n20) (ps := ["_law_row", "_law_most"]) (lv := 2 * n + 1) rfl (gf KX GX cF A) t sc20 (by kernel_rfl) rfl (by kernel_rfl) (fun _ _ _ _ _ _ us hl => match us, hl with | [_, _], _ => rfl) fun o q => fit20 o q).mono (by omega)
  p21 := (let ⟨_, t⟩ := cF.a.def_ 21 (d := d21) rfl; step_fn (F := c21) (N := n21) (ps := ["_law_row", "_law_places_here"]) (lv := 2 * n + 1) rfl (gf KX GX cF A) t sc21 (by kernel_rfl) rfl (by kernel_rfl) (fun _ _ _ _ _ _ us hl => match us, hl with | [_, _], _ => rfl) fun o q => fit21 o q).mono (by omega)
  p22 := (let ⟨_, t⟩ := cF.a.def_ 22 (d := d22) rfl; step_fn (F := c22) (N := n22) (ps := ["_law_row", "_law_places_here", "_law_most"]) (lv := 2 * n + 1) rfl (gf KX GX cF A) t sc22 (by kernel_rfl) rfl (by kernel_rfl) (fun _ _ _ _ _ _ us hl => match us, hl with | [_, _, _], _ => rfl) fun o q => fit22 o q).mono (by omega)
  p23 := (let ⟨_, t⟩ := cF.a.def_ 23 (d := d23) rfl; step_fn (F := c23) (N := n23) (ps := ["_law_places_here"]) (lv := 2 * n + 1) rfl (gf KX GX cF A) t sc23 (by kernel_rfl) rfl (by kernel_rfl) (fun _ _ _ _ _ _ us hl => match us, hl with | [_], _ => rfl) fun o q => fit23 o q).mono (by omega)
  p24 := (let ⟨_, t⟩ := cF.a.def_ 24 (d := d24) rfl; step_fn (F := c24) (N := n24) (ps := ["_law_row", "_law_house_here", "_law_people_here"]) (lv := 2 * n + 1) rfl (gf KX GX cF A) t sc24 (by kernel_rfl) rfl (by kernel_rfl) (fun _ _ _ _ _ _ us hl => match us, hl with | [_, _, _], _ => rfl) fun o q => fit24 o q).mono (by omega)
  p25 := (let ⟨_, t⟩ := cF.a.def_ 25 (d := d25) rfl; step_fn (F := c25) (N := n25) (ps := ["_law_house_here", "_law_people_here", "_law_places_here", "_law_fault"]) (lv := 2 * n + 1) rfl (gf KX GX cF A) t sc25 (by kernel_rfl) rfl (by kernel_rfl) (fun _ _ _ _ _ _ us hl => match us, hl with | [_, _, _, _], _ => rfl) fun o q => fit25 o q).mono (by omega)
  p26 := (let ⟨_, t⟩ := cF.a.def_ 26 (d := d26) rfl; step_fn (F := c26) (N := n26) (ps := ["_law_script"]) (lv := 2 * n + 1) rfl (gf KX GX cF A) t sc26 (by kernel_rfl) rfl (by kernel_rfl) (fun _ _ _ _ _ _ us hl => match us, hl with | [_], _ => rfl) fun o q => fit26 o q).mono (by omega)
theorem al (KX : K.In h) (GX : h.Ns mainGlobals mg) (cF : SaysM exs fas dfs K) : ∀ n, Al P w K mg base (cOf K) wf n
  | 0 => al_zero
  | n + 1 => al_step KX GX cF (al KX GX cF n)
theorem law_fn (KX : K.In h) (GX : h.Ns mainGlobals mg) (cF : SaysM exs fas dfs K) (n : Nat) {f : Addr} (hf : mg ("law" : Str) = some (.ref f)) : ∃ fd : FuncData, (∀ (s : Shared) (v : Value), BindsTo s fd ⟨[v], []⟩ [("_law_script", v)]) ∧
    ∀ base : Heap, K.In base → base.Ns mainGlobals mg → FnOk P w K mg base CX0 (2 * n + 4) f fd ["_law_script"] (spOf (cOf K) (Gn text wf (n + 1)) 26) := by
  obtain ⟨fd, t⟩ := cF.a.def_ 26 (d := d26) rfl
  have e := hf.symm.trans (He.glo_ok KX GX (cF.a.fact 15 (f := (.glo "law")) rfl))
  cases e
  have b := FunD.bindsA (ps := ["_law_script"]) t fun _ _ _ _ _ _ us hl => match us, hl with | [_], _ => rfl
  refine ⟨fd, fun s v => b s [v] rfl, fun base KB GB => ?_⟩
  exact step_fnO (F := c26) (N := n26) (ps := ["_law_script"]) (lv := 2 * n + 1) rfl (gf KX GX cF (al KX GX cF n)) t sc26 (by kernel_rfl) rfl (by kernel_rfl) fun o q => fit26 o q
end
def nm0 : List Str := ["__name__", "PlaceError", "InvalidHouse", "InvalidSeats", "InvalidPeople", "InvalidWishes", "UnknownPlace", "InvalidList", "LETTERS", "MAX_LETTERS", "MAX_PLACES", "MAX_SEATS", "MAX_PEOPLE", "is_integer", "is_name", "is_place", "House", "rank_of", "takings_of", "choose", "free_of", "check_list", "first_fault", "_law_taken", "_law_places", "_law_wishes", "_law_people", "_law_house", "_law_list", "_law_is_fault"]
abbrev nms : List Str := nm0
abbrev R : PySem.W.OpenRow := PySem.W.OpenLaw.row PySem.Challenge.rw_waitmoves_k19_whole_faults_that_are_mend
abbrev hk : PySem.W.Hook := hookM 5 exs fas dfs
def ob (s : PySem.W.SharedT) : AlM := lookM 5 exs fas dfs (HandSHeadRun.getT s)
theorem ob_eq (s : PySem.W.SharedT) : ob s = hk.obs s.abs := lookM_eq (HandSHeadRun.getT_eq s)
theorem head_run (w : World) : HandSHeadRun.RunEq R (PySem.W.view R.prog [33]) hk ob 3000 nms w := by
  intro os
  kernel_rfl
end MiP
open PySem PySem.W PySem.Calls PyProof.Rows
theorem holds_of (wf : Nat) (pure : ∀ ns : List Int, ns.length ≤ 63 → ∃ outs tr, Mi.run0 MiP.text wf (20 + 1) 26 [.fz (.scr ns)] = .ok (.fz (.bl true)) outs tr) : (PySem.Challenge.rw_waitmoves_k19_whole_faults_that_are_mend).Holds := by
  w_on; o_law
  refine HandSHeadRun.head_any (r := OpenLaw.row PySem.Challenge.rw_waitmoves_k19_whole_faults_that_are_mend) (q := view (OpenLaw.row PySem.Challenge.rw_waitmoves_k19_whole_faults_that_are_mend).prog [33]) (H := MiP.hk) (ob := MiP.ob) (M := 3000) (loose := MiP.nms) (d := HandSHeadRun.topDef (OpenLaw.row PySem.Challenge.rw_waitmoves_k19_whole_faults_that_are_mend).prog 33) (kwd := []) MiP.ob_eq
    (by kernel_rfl) (fun s => by kernel_rfl) MiP.head_run (by kernel_rfl) (by kernel_rfl) (by kernel_rfl) (by rfl) (by first | assumption | decide +kernel) (by decide +kernel) ⟨rfl, rfl, rfl, rfl, rfl, by decide +kernel⟩ ?hw ?hc
  case hw => w_witness2
  case hc =>
    refine L2.walk_ofE (l := PySem.Challenge.rw_waitmoves_k19_whole_faults_that_are_mend) (n := 63) (k := 44) (x := "_law_script") (CX := L2.CX0) rfl (by decide) (by kernel_rfl) ⟨rfl, by decide, by decide⟩ ?F (fun _ _ _ _ z => z)
    intro w mg fa h Y G hmg0
    obtain ⟨K, KX, c⟩ := Y
    have hmg : mg ("law" : PySem.Str) = some (.ref fa) := by
      have e : (HandSHeadRun.topDef (OpenLaw.row PySem.Challenge.rw_waitmoves_k19_whole_faults_that_are_mend).prog 33).name = ("law" : PySem.Str) := by kernel_rfl
      rw [← e]
      exact hmg0
    obtain ⟨fd, hb, hF⟩ := MiP.law_fn (P := (PySem.Challenge.rw_waitmoves_k19_whole_faults_that_are_mend).prog) (w := w) (wf := wf) KX G c 20 hmg
    exact ⟨K, fd, Mi.spOf (MiP.cOf K) (Mi.Gn MiP.text wf (20 + 1)) 26, KX, hb, fun H a ns hl _ hS => Mi.law_sp rfl rfl hS (pure ns hl), hF⟩

set_option Elab.async false
set_option linter.all false
set_option maxRecDepth 100000
set_option maxHeartbeats 1000000
/-! k19: the houses and the people. -/
namespace MiQ
open PySem L2 Mi MiP
def PN : List Str := ["pond", "a", "zoo", "b", "hill", "c", "d", "attic"]
def QN : List Str := ["ann", "cid", "bob", "eve", "dan", "fay", "x", "zed", "kim", "lou", "max", "ned"]
variable {wf n : Nat}
theorem q0 {i lo hi : Int} (h1 : lo ≤ i) (h2 : i ≤ hi) : run0 text wf (n + 1) 0 [.fz (.int i), .fz (.int lo), .fz (.int hi)] = .ok (.fz (.bl true)) [.emp, .emp, .emp] [] := by
  rw [rq (F := c0) rfl]
  simp! only [c0, b0, decide_eq_true h1, decide_eq_true h2]
theorem q1 : ∀ x ∈ PN ++ QN, run0 text wf (n + 1) 1 [.fz (.str x)] = .ok (.fz (.bl true)) [.emp] [] := by
  intro x h
  simp only [PN, QN, List.cons_append, List.nil_append, List.mem_cons, List.not_mem_nil, or_false] at h
  rcases h with h | h | h | h | h | h | h | h | h | h | h | h | h | h | h | h | h | h | h | h <;> subst h <;> rfl
theorem mdq (j : Nat) : mdOf text j = (match text[j]? with | some f => f.md | none => []) := rfl
theorem q2 {x : Str} {i : Int} (h : x ∈ PN ++ QN) (h1 : 0 ≤ i) (h2 : i ≤ 9) : run0 text wf (n + 2) 2 [.fz (.tup [.str x, .int i])] = .ok (.fz (.bl true)) [.emp] [] := by
  rw [rq (F := c2) rfl]
  have e1 := q1 (wf := wf) (n := n) x h
  have e2 := q0 (wf := wf) (n := n) h1 h2
  have m0 : mdOf text 0 = [false, false, false] := rfl
  have m1 : mdOf text 1 = [false] := rfl
  have a0 : vaOf text 0 = false := rfl
  have a1 : vaOf text 1 = false := rfl
  simp! only [c2, b2, m0, m1, a0, a1, e1, e2]
/-! ### houses -/
def rowD (p : Str × Int) : D := .tup [.str p.1, .int p.2]
abbrev rowsD (hp : List (Str × Int)) : D := .tup (hp.map rowD)
def hD (hp : List (Str × Int)) : D := .ins 0 [rowsD hp, .dic (kvD .int hp)]
structure HOK (hp : List (Str × Int)) : Prop where
  ne : hp ≠ []
  le : hp.length ≤ 8
  nd : (hp.map (·.1)).Nodup
  nm : ∀ p ∈ hp, p.1 ∈ PN
  st : ∀ p ∈ hp, 0 ≤ p.2 ∧ p.2 ≤ 9
theorem okS : ∀ x ∈ PN ++ QN, (x.cps.all (· < 0x110000)) = true := by
  intro x h
  simp only [PN, QN, List.cons_append, List.nil_append, List.mem_cons, List.not_mem_nil, or_false] at h
  rcases h with h | h | h | h | h | h | h | h | h | h | h | h | h | h | h | h | h | h | h | h <;> subst h <;> decide +kernel
theorem okNS {x : Str} (h : x ∈ PN ++ QN) : ∀ m, okN m (.str x) = true
  | 0 => okS x h
  | _ + 1 => okS x h
theorem ok_rows {hp : List (Str × Int)} (h : ∀ p ∈ hp, p.1 ∈ PN) : okN 60 (rowsD hp) = true := by
  show (hp.map rowD).all (okN 59) = true
  rw [List.all_map, List.all_eq_true]
  intro p m
  show ([D.str p.1, D.int p.2].all (okN 58)) = true
  simp only [List.all_cons, okNS (List.mem_append_left _ (h p m)), List.all_nil]
  rfl
theorem tup_ne {xs : List D} (h : xs ≠ []) (o : okN 60 (.tup xs) = true) : eqD (.tup xs) (.tup []) = some false := by
  cases xs with
  | nil => exact absurd rfl h
  | cons x xs =>
    unfold eqD
    rw [if_neg (by show ¬ (false = true); decide), if_pos ⟨o, rfl⟩]
    rfl
theorem nd_mid {α : Type} {pre : List α} {x : α} {post : List α} (h : (pre ++ x :: post).Nodup) : x ∉ pre := fun m => (List.nodup_append.mp h).2.2 x m x List.mem_cons_self rfl
theorem q3 {hp : List (Str × Int)} (o : HOK hp) : run0 text wf (n + 3) 3 [.ow (.ins 0 []) [], .fz (rowsD hp)] = .ok (.fz .non) [.ow (hD hp) [], .emp] [] := by
  rw [rq (F := c3) rfl]
  have m2 : mdOf text 2 = [false] := rfl
  have a2 : vaOf text 2 = false := rfl
  let I : List (Str × Int) → List (Str × Int) → Sta → Prop := fun pre post s => pre ++ post = hp ∧ ∃ u v, s = ⟨[.ow (.ins 0 []) [], .fz (rowsD hp), .ow (.dic (kvD .int pre)) [], u, v], []⟩
  obtain ⟨s', e, _, u, v, rfl⟩ := forL_enum (f := loopF ⟨run0 text wf (n + 2), mdOf text, vaOf text, wf⟩ (.tn [3, 4]) b3_0) rowD I (fun pre p post s ⟨hs, u, v, e⟩ => by
    subst e
    have mem : p ∈ hp := by rw [← hs]; simp
    have e2 := q2 (wf := wf) (n := n) (x := p.1) (i := p.2) (List.mem_append_left _ (o.nm p mem)) (o.st p mem).1 (o.st p mem).2
    have ln : pre.length < 8 := by
      have := o.le
      rw [← hs, List.length_append, List.length_cons] at this
      omega
    have l8 : (((pre.length : Nat) : Int) == 8) = false := by
      rw [beq_eq_false_iff_ne]; omega
    have nk : lk pre p.1 = none := lk_none (by
      have := o.nd
      rw [← hs, List.map_append, List.map_cons] at this
      exact nd_mid this)
    have ll : (kvD D.int pre).length < LIM := by rw [kv_len]; unfold LIM; omega
    refine ⟨⟨[.ow (.ins 0 []) [], .fz (rowsD hp), .ow (.dic (kvD .int (pre ++ [p]))) [], .fz (.int (pre.length : Nat)), .fz (rowD p)], []⟩, ?_, by rw [List.append_assoc]; exact hs, _, _, rfl⟩
    have q : atI [D.str p.1, D.int p.2] 0 = some (.str p.1) := rfl
    have q' : atI [D.str p.1, D.int p.2] 1 = some (.int p.2) := rfl
    simp! only [loopF, rowD, b3_0, m2, a2, e2, l8, q, q', dget_kv, nk, Option.map_none, ll, dput_new nk]) hp ⟨[.ow (.ins 0 []) [], .fz (rowsD hp), .ow (.dic []) [], .emp, .emp], []⟩ ⟨rfl, _, _, rfl⟩
  have z : eqD (rowsD hp) (.tup []) = some false := tup_ne (fun z => o.ne (List.map_eq_nil_iff.mp z)) (ok_rows o.nm)
  simp! only [c3, b3]
  rw [e]
  simp! only [z, hD, Nat.zero_le, LIM]
theorem md3 : mdOf text 3 = [true] := rfl
theorem va3 : vaOf text 3 = true := rfl
theorem q4 {xs : List Str} (o : HOK (xs.map fun x => (x, 1))) : run0 text wf (n + 4) 4 [.fz (.cls 0), .fz (.tup (xs.map .str))] = .ok (.ow (hD (xs.map fun x => (x, 1))) []) [.emp, .emp] [] := by
  rw [rq (F := c4) rfl]
  have hl : xs.length ≤ LIM := by
    have := o.le
    rw [List.length_map] at this
    unfold LIM; omega
  have e := q3 (wf := wf) (n := n) o
  have er : (xs.map fun x => (x, (1 : Int))).map rowD = xs.map fun x => D.tup [.str x, .int 1] := by rw [List.map_map]; rfl
  simp only [hD, rowsD, er] at e
  simp! only [c4, b4]
  rw [lcL_all D.str (fun x => D.tup [.str x, .int 1]) _ xs (fun x _ => by simp! only [lcF, LIM]) hl]
  simp! only [md3, va3, List.append_nil, boAll_fz, keepAll_fz, List.length_map, hl]
  rw [e]
  simp! only [hD, rowsD, er]
theorem q5 {hp : List (Str × Int)} : run0 text wf (n + 1) 5 [.fz (hD hp)] = .ok (.fz (rowsD hp)) [.emp] [] := by
  rw [rq (F := c5) rfl]
  simp! only [c5, b5, hD]
theorem q6 {hp : List (Str × Int)} : run0 text wf (n + 1) 6 [.fz (hD hp)] = .ok (.fz (.tup ((hp.map (·.1)).map .str))) [.emp] [] := by
  rw [rq (F := c6) rfl]
  have e : (kvD D.int hp).map (fun p => kD p.1) = (hp.map (·.1)).map D.str := by
    unfold kvD
    rw [List.map_map, List.map_map]
    rfl
  simp! only [c6, b6, hD, e]
theorem q7 {hp : List (Str × Int)} {x : Str} (h : x ∈ hp.map (·.1)) : run0 text wf (n + 1) 7 [.fz (hD hp), .fz (.str x)] = .ok (.fz .non) [.emp, .emp] [] := by
  rw [rq (F := c7) rfl]
  obtain ⟨v, e, _⟩ := lk_some h
  simp! only [c7, b7, hD, dget_kv, e]
theorem md7 : mdOf text 7 = [false, false] := rfl
theorem va7 : vaOf text 7 = false := rfl
theorem q8 {hp : List (Str × Int)} {x : Str} {v : Int} (h : lk hp x = some v) (hm : x ∈ hp.map (·.1)) : run0 text wf (n + 2) 8 [.fz (hD hp), .fz (.str x)] = .ok (.fz (.int v)) [.emp, .emp] [] := by
  rw [rq (F := c8) rfl]
  have e := q7 (wf := wf) (n := n) hm
  simp only [hD] at e
  simp! only [c8, b8, hD, md7, va7, e, dget_kv, h]
theorem md0 : mdOf text 0 = [false, false, false] := rfl
theorem va0 : vaOf text 0 = false := rfl
theorem hok_up {hp : List (Str × Int)} (o : HOK hp) {x : Str} {v : Int} (h1 : 0 ≤ v) (h2 : v ≤ 9) : HOK (up hp x v) where
  ne := fun z => o.ne (List.map_eq_nil_iff.mp z)
  le := by unfold up; rw [List.length_map]; exact o.le
  nd := by rw [up_keys]; exact o.nd
  nm := fun p m => by
    have m : p.1 ∈ (up hp x v).map (·.1) := List.mem_map.mpr ⟨p, m, rfl⟩
    rw [up_keys] at m
    obtain ⟨q, m, e⟩ := List.mem_map.mp m
    rw [← e]
    exact o.nm q m
  st := fun p m => by
    unfold up at m
    obtain ⟨q, mq, e⟩ := List.mem_map.mp m
    subst e
    split
    · exact ⟨h1, h2⟩
    · exact o.st q mq
theorem q9 {hp : List (Str × Int)} {x : Str} {v : Int} (o : HOK hp) (hm : x ∈ hp.map (·.1)) (h1 : 0 ≤ v) (h2 : v ≤ 9) : run0 text wf (n + 4) 9 [.fz (hD hp), .fz (.str x), .fz (.int v)] = .ok (.ow (hD (up hp x v)) []) [.emp, .emp, .emp] [] := by
  rw [rq (F := c9) rfl]
  have e1 := q7 (wf := wf) (n := n + 2) hm
  have e2 := q0 (wf := wf) (n := n + 2) h1 h2
  have e3 := q3 (wf := wf) (n := n) (hok_up o (x := x) h1 h2)
  have er : (up hp x v).map rowD = hp.map fun p => D.tup [.str p.1, if p.1 = x then .int v else .int p.2] := by
    unfold up
    rw [List.map_map]
    refine List.map_congr_left fun p _ => ?_
    show rowD (if p.1 = x then (p.1, v) else p) = _
    by_cases q : p.1 = x <;> simp [q, rowD]
  have hl : hp.length ≤ LIM := by have := o.le; unfold LIM; omega
  simp only [hD, rowsD] at e1
  simp only [hD, rowsD, er] at e3
  simp! only [c9, b9, hD, md7, va7, e1, md0, va0, e2]
  rw [lcL_all rowD (fun p => D.tup [.str p.1, if p.1 = x then .int v else .int p.2]) _ hp (fun p _ => by
    by_cases q : p.1 = x
    · simp! only [lcF, rowD, LIM, q]
    · simp! only [lcF, rowD, LIM, q, beq_eq_false_iff_ne.mpr q]) hl]
  simp! only [md3, va3, List.append_nil, boAll_fz, keepAll_fz, List.length_map, hl, e3, er, hD, rowsD]
/-! ### people -/
abbrev wsD (ws : List Str) : D := .tup (ws.map .str)
def perD (p : Str × List Str) : D := .tup [.str p.1, wsD p.2]
abbrev pplD (ps : List (Str × List Str)) : D := .tup (ps.map perD)
structure WOK (hp : List (Str × Int)) (ws : List Str) : Prop where
  ne : ws ≠ []
  nd : ws.Nodup
  ss : ∀ w ∈ ws, w ∈ hp.map (·.1)
structure POK (hp : List (Str × Int)) (ps : List (Str × List Str)) : Prop where
  le : ps.length ≤ 12
  nd : (ps.map (·.1)).Nodup
  nm : ∀ p ∈ ps, p.1 ∈ QN
  ws : ∀ p ∈ ps, WOK hp p.2
theorem nm_of {hp : List (Str × Int)} (o : HOK hp) {w : Str} (h : w ∈ hp.map (·.1)) : w ∈ PN := by
  obtain ⟨p, m, e⟩ := List.mem_map.mp h
  rw [← e]
  exact o.nm p m
theorem q10 {hp : List (Str × Int)} {ws : List Str} (o : HOK hp) (k : WOK hp ws) : run0 text wf (n + 1) 10 [.fz (hD hp), .fz (wsD ws)] = .ok (.fz .non) [.emp, .emp] [] := by
  rw [rq (F := c10) rfl]
  have z : eqD (wsD ws) (.tup []) = some false := tup_ne (fun z => k.ne (List.map_eq_nil_iff.mp z)) (by
    show (ws.map D.str).all (okN 59) = true
    rw [List.all_map, List.all_eq_true]
    exact fun w m => okNS (List.mem_append_left _ (nm_of o (k.ss w m))) 59)
  let I : List Str → List Str → Sta → Prop := fun pre post s => pre ++ post = ws ∧ ∃ u v, s = ⟨[.fz (hD hp), .fz (wsD ws), u, v], []⟩
  obtain ⟨s', e, _, u, v, rfl⟩ := forL_enum (f := loopF ⟨run0 text wf n, mdOf text, vaOf text, wf⟩ (.tn [2, 3]) b10_0) D.str I (fun pre p post s ⟨hs, u, v, e⟩ => by
    subst e
    have mem : p ∈ ws := by rw [← hs]; simp
    obtain ⟨w, e1, _⟩ := lk_some (k.ss p mem)
    have e2 : decide (p ∈ pre) = false := by
      rw [decide_eq_false_iff_not]
      have := k.nd
      rw [← hs] at this
      exact nd_mid this
    refine ⟨⟨[.fz (hD hp), .fz (wsD ws), .fz (.int (pre.length : Nat)), .fz (.str p)], []⟩, ?_, by rw [List.append_assoc]; exact hs, _, _, rfl⟩
    simp! only [loopF, b10_0, hD, dget_kv, e1, cut_to, take_pre hs, anyEq_str, e2]) ws ⟨[.fz (hD hp), .fz (wsD ws), .emp, .emp], []⟩ ⟨rfl, _, _, rfl⟩
  simp! only [c10, b10, z]
  rw [e]
  simp! only [e]
theorem md1 : mdOf text 1 = [false] := rfl
theorem va1 : vaOf text 1 = false := rfl
theorem md10 : mdOf text 10 = [false, false] := rfl
theorem va10 : vaOf text 10 = false := rfl
theorem q11 {hp : List (Str × Int)} {p : Str × List Str} (o : HOK hp) (hn : p.1 ∈ QN) (k : WOK hp p.2) : run0 text wf (n + 2) 11 [.fz (hD hp), .fz (perD p)] = .ok (.fz (.bl true)) [.emp, .emp] [] := by
  rw [rq (F := c11) rfl]
  have e1 := q1 (wf := wf) (n := n) p.1 (List.mem_append_right _ hn)
  have e2 := q10 (wf := wf) (n := n) o k
  simp only [hD] at e2
  have a0 : atI [D.str p.1, wsD p.2] 0 = some (.str p.1) := rfl
  have a1 : atI [D.str p.1, wsD p.2] 1 = some (wsD p.2) := rfl
  have l2 : eqD (.int ((2 : Nat) : Int)) (.int 2) = some true := rfl
  simp! only [c11, b11, hD, perD, md1, va1, md10, va10, a0, a1, e1, e2, l2]
theorem md11 : mdOf text 11 = [false, false] := rfl
theorem va11 : vaOf text 11 = false := rfl
theorem q12 {hp : List (Str × Int)} {ps : List (Str × List Str)} (o : HOK hp) (k : POK hp ps) : run0 text wf (n + 3) 12 [.fz (hD hp), .fz (pplD ps)] = .ok (.fz .non) [.emp, .emp] [] := by
  rw [rq (F := c12) rfl]
  let I : List (Str × List Str) → List (Str × List Str) → Sta → Prop := fun pre post s => pre ++ post = ps ∧ ∃ u v, s = ⟨[.fz (hD hp), .fz (pplD ps), u, v, .emp], []⟩
  obtain ⟨s', e, _, u, v, rfl⟩ := forL_enum (f := loopF ⟨run0 text wf (n + 2), mdOf text, vaOf text, wf⟩ (.tn [2, 3]) b12_0) perD I (fun pre p post s ⟨hs, u, v, e⟩ => by
    subst e
    have mem : p ∈ ps := by rw [← hs]; simp
    have ln : pre.length < 12 := by
      have := k.le
      rw [← hs, List.length_append, List.length_cons] at this
      omega
    have l12 : (((pre.length : Nat) : Int) == 12) = false := by
      rw [beq_eq_false_iff_ne]; omega
    have e1 := q11 (wf := wf) (n := n) o (k.nm p mem) (k.ws p mem)
    have e2 : decide (p.1 ∈ pre.map (·.1)) = false := by
      rw [decide_eq_false_iff_not]
      have := k.nd
      rw [← hs, List.map_append, List.map_cons] at this
      exact nd_mid this
    have er : pre.map (fun p => D.str p.1) = (pre.map (·.1)).map D.str := by rw [List.map_map]; rfl
    simp only [hD, perD] at e1
    have a0 : atI [D.str p.1, wsD p.2] 0 = some (.str p.1) := rfl
    refine ⟨⟨[.fz (hD hp), .fz (pplD ps), .fz (.int (pre.length : Nat)), .fz (perD p), .emp], []⟩, ?_, by rw [List.append_assoc]; exact hs, _, _, rfl⟩
    simp! only [loopF, b12_0, hD, perD, l12, md11, va11, e1, cut_to, a0]
    rw [take_pre hs]
    rw [lcL_all perD (fun p => D.str p.1) _ pre (fun p _ => by
      have a0 : atI [D.str p.1, wsD p.2] 0 = some (.str p.1) := rfl
      simp! only [lcF, perD, a0]) (by unfold LIM; omega)]
    simp! only [er, anyEq_str, e2]) ps ⟨[.fz (hD hp), .fz (pplD ps), .emp, .emp, .emp], []⟩ ⟨rfl, _, _, rfl⟩
  simp! only [c12, b12]
  rw [e]
  simp! only [e]
def rankOf (ws : List Str) : Option Str → Nat
  | none => ws.length
  | some x => ws.idxOf x
theorem q13 {ws : List Str} {p : Option Str} (h : ∀ x, p = some x → x ∈ ws) : run0 text wf (n + 1) 13 [.fz (wsD ws), .fz (oD p)] = .ok (.fz (.int (rankOf ws p : Nat))) [.emp, .emp] [] := by
  rw [rq (F := c13) rfl]
  cases p with
  | none => simp! only [c13, b13, oD, rankOf, List.length_map]
  | some x =>
    have e := u_indexT (findEq_str (h x rfl))
    simp! only [c13, b13, oD, rankOf, e]
end MiQ

set_option Elab.async false
set_option linter.all false
set_option maxRecDepth 100000
set_option maxHeartbeats 1000000
/-! k19: choosing. -/
namespace MiQ
open PySem L2 Mi MiP
variable {wf n : Nat}
def get (fr : List (Str × Int)) (w : Str) : Int := (lk fr w).getD 0
def pick (fr : List (Str × Int)) : List Str → Option Str
  | [] => none
  | w :: ws => if 0 < get fr w then some w else pick fr ws
def decO (fr : List (Str × Int)) : Option Str → List (Str × Int)
  | none => fr
  | some x => up fr x (get fr x - 1)
def takes (fr : List (Str × Int)) : List (Str × List Str) → List (Str × Option Str)
  | [] => []
  | p :: ps => (p.1, pick fr p.2) :: takes (decO fr (pick fr p.2)) ps
def frees (fr : List (Str × Int)) : List (Str × List Str) → List (Str × Int)
  | [] => fr
  | p :: ps => frees (decO fr (pick fr p.2)) ps
def tkD (t : Str × Option Str) : D := .tup [.str t.1, oD t.2]
theorem decO_keys (fr : List (Str × Int)) (o : Option Str) : (decO fr o).map (·.1) = fr.map (·.1) := by
  cases o with
  | none => rfl
  | some x => exact up_keys
theorem pick_app (fr : List (Str × Int)) : ∀ (pre : List Str) (w : Str), pick fr (pre ++ [w]) = (pick fr pre).or (if 0 < get fr w then some w else none)
  | [], w => by
    show (if 0 < get fr w then some w else none) = _
    simp [pick]
  | v :: pre, w => by
    show (if 0 < get fr v then some v else pick fr (pre ++ [w])) = (if 0 < get fr v then some v else pick fr pre).or _
    split
    · rfl
    · exact pick_app fr pre w
theorem takes_app (fr : List (Str × Int)) : ∀ (pre : List (Str × List Str)) (p : Str × List Str), takes fr (pre ++ [p]) = takes fr pre ++ [(p.1, pick (frees fr pre) p.2)]
  | [], p => rfl
  | v :: pre, p => by
    show (v.1, pick fr v.2) :: takes _ (pre ++ [p]) = (v.1, pick fr v.2) :: (takes _ pre ++ [_])
    rw [takes_app]
    rfl
theorem frees_app (fr : List (Str × Int)) : ∀ (pre : List (Str × List Str)) (p : Str × List Str), frees fr (pre ++ [p]) = decO (frees fr pre) (pick (frees fr pre) p.2)
  | [], p => rfl
  | v :: pre, p => frees_app _ pre p
theorem frees_keys : ∀ (pre : List (Str × List Str)) (fr : List (Str × Int)), (frees fr pre).map (·.1) = fr.map (·.1)
  | [], _ => rfl
  | v :: pre, fr => by
    show (frees (decO fr (pick fr v.2)) pre).map (·.1) = _
    rw [frees_keys pre, decO_keys]
theorem takes_len : ∀ (ps : List (Str × List Str)) (fr : List (Str × Int)), (takes fr ps).length = ps.length
  | [], _ => rfl
  | p :: ps, fr => congrArg (· + 1) (takes_len ps _)
theorem takes_names : ∀ (ps : List (Str × List Str)) (fr : List (Str × Int)), (takes fr ps).map (·.1) = ps.map (·.1)
  | [], _ => rfl
  | p :: ps, fr => congrArg (p.1 :: ·) (takes_names ps _)
theorem inner {fr : List (Str × Int)} {ws : List Str} {d0 d1 d3 : D} {out : List D} {v : Slot} {g : G} (hs : ∀ w ∈ ws, w ∈ fr.map (·.1)) {u0 : Slot} (hu : noInsS u0 = true) (hl : fr.length ≤ 8) : ∃ u, noInsS u = true ∧ forL (loopF g (.nm 6) b14_0) (ws.map D.str) ⟨[.fz d0, .fz d1, .ow (.dic (kvD .int fr)) [], .fz d3, .fz (wsD ws), .fz .non, u0, v], out⟩ =
    .ok .nx ⟨[.fz d0, .fz d1, .ow (.dic (kvD .int (decO fr (pick fr ws)))) [], .fz d3, .fz (wsD ws), .fz (oD (pick fr ws)), u, v], out⟩ := by
  let I : List Str → List Str → Sta → Prop := fun pre post s => pre ++ post = ws ∧ ∃ u, s = ⟨[.fz d0, .fz d1, .ow (.dic (kvD .int (decO fr (pick fr pre)))) [], .fz d3, .fz (wsD ws), .fz (oD (pick fr pre)), u, v], out⟩ ∧ noInsS u = true
  obtain ⟨s', e, _, u', rfl, nu⟩ := forL_thru (f := loopF g (.nm 6) b14_0) D.str I (fun pre w post s ⟨h1, u, h2, _⟩ => by
    subst h2
    have mem : w ∈ ws := by rw [← h1]; simp
    have mk : w ∈ (decO fr (pick fr pre)).map (·.1) := by rw [decO_keys]; exact hs w mem
    obtain ⟨x, ex, _⟩ := lk_some mk
    cases hp : pick fr pre with
    | none =>
      rw [hp] at ex
      have ex : lk fr w = some x := ex
      have eg : get fr w = x := by unfold get; rw [ex]; rfl
      by_cases pos : 0 < x
      · refine ⟨⟨[.fz d0, .fz d1, .ow (.dic (kvD .int (decO fr (some w)))) [], .fz d3, .fz (wsD ws), .fz (.str w), .fz (.str w), v], out⟩, ?_, by rw [List.append_assoc]; exact h1, .fz (.str w), ?_, rfl⟩
        · have ll : (kvD D.int fr).length < LIM := by rw [kv_len]; unfold LIM; omega
          have du := dput_old (enc := D.int) (f := fr) (x := w) (v := x - 1) (by rw [ex]; rfl)
          simp! only [loopF, b14_0, decO, oD, dget_kv, ex, decide_eq_true pos, ll, du, eg]
        · rw [pick_app, hp, eg, if_pos pos]
          rfl
      · refine ⟨⟨[.fz d0, .fz d1, .ow (.dic (kvD .int fr)) [], .fz d3, .fz (wsD ws), .fz .non, .fz (.str w), v], out⟩, ?_, by rw [List.append_assoc]; exact h1, .fz (.str w), ?_, rfl⟩
        · simp! only [loopF, b14_0, decO, oD, dget_kv, ex, decide_eq_false pos]
        · rw [pick_app, hp, eg, if_neg pos]
          rfl
    | some y =>
      rw [hp] at ex
      refine ⟨⟨[.fz d0, .fz d1, .ow (.dic (kvD .int (decO fr (some y)))) [], .fz d3, .fz (wsD ws), .fz (.str y), .fz (.str w), v], out⟩, ?_, by rw [List.append_assoc]; exact h1, .fz (.str w), ?_, rfl⟩
      · by_cases pos : 0 < x
        · simp! only [loopF, b14_0, oD, dget_kv, ex, decide_eq_true pos]
        · simp! only [loopF, b14_0, oD, dget_kv, ex, decide_eq_false pos]
      · rw [pick_app, hp]
        rfl) ws [] ⟨[.fz d0, .fz d1, .ow (.dic (kvD .int fr)) [], .fz d3, .fz (wsD ws), .fz .non, u0, v], out⟩ ⟨rfl, _, rfl, hu⟩
  exact ⟨u', nu, e⟩
theorem nio1 (d : D) : noInsS (.fz d) = true := rfl
theorem nio2 (d : List (Key × D)) (b : List Nat) : noInsS (.ow (.dic d) b) = true := rfl
theorem nio3 : noInsS .emp = true := rfl
theorem md5 : mdOf text 5 = [false] := rfl
theorem va5 : vaOf text 5 = false := rfl
theorem kv_id {hp : List (Str × Int)} : (hp.map fun p => (p.1, p.2)) = hp := List.map_id hp
/-- {name: seats for name, seats in house.places} -/
theorem dc_rows {hp : List (Str × Int)} (o : HOK hp) {g : G} {a b c d e f : Slot} {out : List D} : dcL (dcF g (.tn [3, 7]) (.var 3) (.var 7) [3, 7]) (hp.map rowD) [] ⟨[a, b, c, .emp, d, e, f, .emp], out⟩ = .ok (kvD .int hp) ⟨[a, b, c, .emp, d, e, f, .emp], out⟩ := by
  have z := dcL_kv (f := dcF g (.tn [3, 7]) (.var 3) (.var 7) [3, 7]) rowD (fun p => p.1) (fun p => p.2) D.int ⟨[a, b, c, .emp, d, e, f, .emp], out⟩ hp o.nd (by have := o.le; unfold LIM; omega) (fun p _ => by simp! only [dcF, rowD])
  rw [kv_id] at z
  exact z
theorem q14 {hp : List (Str × Int)} {ps : List (Str × List Str)} (o : HOK hp) (k : POK hp ps) : run0 text wf (n + 2) 14 [.fz (hD hp), .fz (pplD ps)] = .ok (.fz .non) [.emp, .emp] ((takes hp ps).map tkD) := by
  rw [rq (F := c14) rfl]
  let I : List (Str × List Str) → List (Str × List Str) → Sta → Prop := fun pre post s => pre ++ post = ps ∧ ∃ u3 u4 u5 u6, s = ⟨[.fz (hD hp), .fz (pplD ps), .ow (.dic (kvD .int (frees hp pre))) [], u3, u4, u5, u6, .emp], (takes hp pre).map tkD⟩ ∧ noInsS u3 = true ∧ noInsS u4 = true ∧ noInsS u5 = true ∧ noInsS u6 = true
  obtain ⟨s', e, _, u3, u4, u5, u6, rfl, _⟩ := forL_thru (f := loopF ⟨run0 text wf (n + 1), mdOf text, vaOf text, wf⟩ (.tn [3, 4]) b14_1) perD I (fun pre p post s ⟨hs, u3, u4, u5, u6, e, k3, k4, k5, k6⟩ => by
    subst e
    have mem : p ∈ ps := by rw [← hs]; simp
    have sub : ∀ w ∈ p.2, w ∈ (frees hp pre).map (·.1) := fun w m => by rw [frees_keys]; exact (k.ws p mem).ss w m
    have hl : (frees hp pre).length ≤ 8 := by
      have := congrArg List.length (frees_keys pre hp)
      rw [List.length_map, List.length_map] at this
      rw [this]; exact o.le
    obtain ⟨u, n6, e1⟩ := inner (g := ⟨run0 text wf (n + 1), mdOf text, vaOf text, wf⟩) (d0 := hD hp) (d1 := pplD ps) (d3 := .str p.1) (out := (takes hp pre).map tkD) (u0 := u6) (v := .emp) sub k6 hl
    have lt : ((takes hp pre).map tkD).length < LIM := by
      rw [List.length_map, takes_len]
      have := k.le
      rw [← hs, List.length_append, List.length_cons] at this
      unfold LIM; omega
    refine ⟨⟨[.fz (hD hp), .fz (pplD ps), .ow (.dic (kvD .int (frees hp (pre ++ [p])))) [], .fz (.str p.1), .fz (wsD p.2), .fz (oD (pick (frees hp pre) p.2)), u, .emp], (takes hp (pre ++ [p])).map tkD⟩, ?_, by rw [List.append_assoc]; exact hs, _, _, _, _, rfl, rfl, rfl, rfl, n6⟩
    have two : 2 ≤ LIM := by decide
    simp! only [loopF, b14_1, perD, e1, nio1, nio2, nio3, n6, lt, two]
    rw [frees_app, takes_app, List.map_append]
    rfl) ps [] ⟨[.fz (hD hp), .fz (pplD ps), .ow (.dic (kvD .int hp)) [], .emp, .emp, .emp, .emp, .emp], []⟩ ⟨rfl, _, _, _, _, rfl, rfl, rfl, rfl, rfl⟩
  have e5 := q5 (wf := wf) (n := n) (hp := hp)
  simp only [hD] at e5
  simp! only [c14, b14, hD, md5, va5, e5, dc_rows o]
  simp only [hD] at e
  rw [e]
  simp! only [List.nil_append]
end MiQ

set_option Elab.async false
set_option linter.all false
set_option maxRecDepth 100000
set_option maxHeartbeats 1000000
/-! k19: lists and their faults. -/
namespace MiQ
open PySem L2 Mi MiP
variable {wf n : Nat}
theorem md12 : mdOf text 12 = [false, false] := rfl
theorem va12 : vaOf text 12 = false := rfl
theorem md14 : mdOf text 14 = [false, false] := rfl
theorem va14 : vaOf text 14 = false := rfl
theorem q15 {hp : List (Str × Int)} {ps : List (Str × List Str)} (o : HOK hp) (k : POK hp ps) : run0 text wf (n + 4) 15 [.fz (hD hp), .fz (pplD ps)] = .ok (.ow (.dic (kvD oD (takes hp ps))) []) [.emp, .emp] [] := by
  rw [rq (F := c15) rfl]
  have e1 := q12 (wf := wf) (n := n) o k
  have e2 := q14 (wf := wf) (n := n + 1) o k
  have z := dcL_kv (f := dcF ⟨run0 text wf (n + 3), mdOf text, vaOf text, wf⟩ (.tn [2, 3]) (.var 2) (.var 3) [2, 3]) tkD (fun p => p.1) (fun p => p.2) oD ⟨[.fz (hD hp), .fz (pplD ps), .emp, .emp], []⟩ (takes hp ps) (by
    show ((takes hp ps).map (·.1)).Nodup
    rw [takes_names]
    exact k.nd) (by rw [takes_len]; have := k.le; unfold LIM; omega) (fun p _ => by
    cases h : p.2 <;> simp! only [dcF, tkD, h, oD])
  have kv : ((takes hp ps).map fun p => (p.1, p.2)) = takes hp ps := List.map_id _
  rw [kv] at z
  simp only [hD] at e1 e2 z
  simp! only [c15, b15, hD, md12, va12, e1, md14, va14, doGen, e2, z]
def freeOf (hp : List (Str × Int)) (L : List (Option Str)) : List (Str × Int) := hp.map fun p => (p.1, p.2 - (L.count (some p.1) : Nat))
theorem q16 {hp : List (Str × Int)} {L : List (Option Str)} (o : HOK hp) : run0 text wf (n + 2) 16 [.fz (hD hp), .fz (.lst (L.map oD))] = .ok (.ow (.dic (kvD .int (freeOf hp L))) []) [.emp, .emp] [] := by
  rw [rq (F := c16) rfl]
  have e5 := q5 (wf := wf) (n := n) (hp := hp)
  have z := dcL_kv (f := dcF ⟨run0 text wf (n + 1), mdOf text, vaOf text, wf⟩ (.tn [2, 3]) (.var 2) (.bi .sub (.cons (.var 3) (.cons (.bm .count (.var 1) (.cons (.var 2) .nil)) .nil))) [2, 3]) rowD (fun p => p.1) (fun p => p.2 - (L.count (some p.1) : Nat)) D.int ⟨[.fz (hD hp), .fz (.lst (L.map oD)), .emp, .emp], []⟩ hp o.nd (by have := o.le; unfold LIM; omega) (fun p _ => by
    have e := u_countL (countEq_oD (x := p.1) (L := L))
    simp! only [dcF, rowD, e])
  simp only [hD] at e5 z
  simp! only [c16, b16, hD, md5, va5, e5, z]
  rfl
structure LOK (hp : List (Str × Int)) (ps : List (Str × List Str)) (L : List (Option Str)) : Prop where
  len : L.length = ps.length
  mem : ∀ (k : Nat) (o : Option Str), L[k]? = some o → ∃ p, ps[k]? = some p ∧ ∀ x, o = some x → x ∈ p.2
  cnt : ∀ p ∈ hp, ((L.count (some p.1) : Nat) : Int) ≤ p.2
abbrev LD (L : List (Option Str)) : D := .tup (L.map oD)
theorem mid_get {α : Type} {pre : List α} {x : α} {post xs : List α} (h : pre ++ x :: post = xs) : xs[pre.length]? = some x := by
  rw [← h]; simp
theorem md8 : mdOf text 8 = [false, false] := rfl
theorem va8 : vaOf text 8 = false := rfl
theorem q17 {hp : List (Str × Int)} {ps : List (Str × List Str)} {L : List (Option Str)} (o : HOK hp) (k : POK hp ps) (l : LOK hp ps L) : run0 text wf (n + 3) 17 [.fz (hD hp), .fz (pplD ps), .fz (LD L)] = .ok (.fz .non) [.emp, .emp, .emp] [] := by
  rw [rq (F := c17) rfl]
  let I : List (Option Str) → List (Option Str) → Sta → Prop := fun pre post s => pre ++ post = L ∧ ∃ u v, s = ⟨[.fz (hD hp), .fz (pplD ps), .fz (LD L), u, v], []⟩
  obtain ⟨s', e, _, u, v, rfl⟩ := forL_enum (f := loopF ⟨run0 text wf (n + 2), mdOf text, vaOf text, wf⟩ (.tn [3, 4]) b17_0) oD I (fun pre x post s ⟨hs, u, v, e⟩ => by
    subst e
    refine ⟨⟨[.fz (hD hp), .fz (pplD ps), .fz (LD L), .fz (.int (pre.length : Nat)), .fz (oD x)], []⟩, ?_, by rw [List.append_assoc]; exact hs, _, _, rfl⟩
    obtain ⟨p, hp1, hp2⟩ := l.mem _ _ (mid_get hs)
    have lt : (((pre.length : Nat) : Int) == ((ps.map perD).length : Nat)) = false := by
      have := (List.getElem?_eq_some_iff.mp hp1).1
      rw [List.length_map, beq_eq_false_iff_ne]
      omega
    have a1 : atI (ps.map perD) (pre.length : Nat) = some (perD p) := Mi.atI_nat (by rw [List.getElem?_map, hp1]; rfl)
    have a2 : atI [D.str p.1, wsD p.2] 1 = some (wsD p.2) := rfl
    cases x with
    | none => simp! only [loopF, b17_0, oD, lt]
    | some x =>
      have m := hp2 x rfl
      have pm : p ∈ ps := List.mem_of_getElem? hp1
      have xm := (k.ws p pm).ss x m
      obtain ⟨v, ev, mv⟩ := lk_some xm
      have e8 := q8 (wf := wf) (n := n) ev xm
      have cnt := l.cnt _ mv
      have e9 : (((pre.count (some x) : Nat) : Int) == v) = false := by
        rw [beq_eq_false_iff_ne]
        have cnt : ((L.count (some x) : Nat) : Int) ≤ v := cnt
        have : L.count (some x) = pre.count (some x) + (1 + post.count (some x)) := by
          rw [← hs, List.count_append, List.count_cons]
          simp
          omega
        omega
      have ec := u_countT (countEq_oD (x := x) (L := pre))
      have tk : List.take pre.length (L.map oD) = pre.map oD := take_pre hs
      simp only [hD] at e8
      simp! only [loopF, b17_0, oD, lt, a1, perD, a2, anyEq_str, m, cut_to, tk, ec, hD, md8, va8, e8, e9]) L ⟨[.fz (hD hp), .fz (pplD ps), .fz (LD L), .emp, .emp], []⟩ ⟨rfl, _, _, rfl⟩
  have nl : decide (((L.map oD).length : Int) < ((ps.map perD).length : Nat)) = false := by
    rw [List.length_map, List.length_map, l.len]
    simp
  simp! only [c17, b17]
  rw [e]
  simp! only [nl]
/-! the first fault -/
def laters (ps : List (Str × List Str)) (L : List (Option Str)) (w : Str) : List Str := (ps.zip L).filterMap fun q => if q.2 = some w then some q.1.1 else none
def faultIn (fr : List (Str × Int)) (ps : List (Str × List Str)) (L : List (Option Str)) (nm : Str) : List Str → Option (Str × Str × Option Str)
  | [] => none
  | w :: ws => if 0 < get fr w then some (nm, w, none) else match laters ps L w with
    | y :: _ => some (nm, w, some y)
    | [] => faultIn fr ps L nm ws
def better (ws : List Str) (o : Option Str) : List Str := ws.take (rankOf ws o)
def fault (fr : List (Str × Int)) : List (Str × List Str) → List (Option Str) → Option (Str × Str × Option Str)
  | p :: ps, o :: L => (faultIn fr ps L p.1 (better p.2 o)).or (fault fr ps L)
  | _, _ => none
def faD (f : Str × Str × Option Str) : D := .tup [.str f.1, .str f.2.1, oD f.2.2]
def foD : Option (Str × Str × Option Str) → D
  | none => .non
  | some f => faD f
theorem faultIn_app (fr : List (Str × Int)) (ps : List (Str × List Str)) (L : List (Option Str)) (nm : Str) : ∀ (pre : List Str) (post : List Str), faultIn fr ps L nm pre = none → faultIn fr ps L nm (pre ++ post) = faultIn fr ps L nm post
  | [], post, _ => rfl
  | w :: pre, post, h => by
    unfold faultIn at h
    show faultIn fr ps L nm (w :: (pre ++ post)) = _
    conv => lhs; unfold faultIn
    split at h
    · cases h
    · rename_i n
      rw [if_neg n]
      split at h
      · cases h
      · rename_i e
        exact faultIn_app fr ps L nm pre post h
theorem faultL {hp : List (Str × Int)} {ps : List (Str × List Str)} {L : List (Option Str)} {fr : List (Str × Int)} {pre post : List (Str × List Str)} {p : Str × List Str} {Lpre Lpost : List (Option Str)} {o : Option Str} (k : POK hp ps)
    (h1 : pre ++ p :: post = ps) (h2 : Lpre ++ o :: Lpost = L) (hl : Lpre.length = pre.length) (hk : ∀ w ∈ p.2, w ∈ fr.map (·.1)) {d0 : D} {u7 u8 : Slot} {g : G} :
    ∃ fl s', forL (loopF g (.nm 7) b18_0) ((better p.2 o).map D.str) ⟨[.fz d0, .fz (pplD ps), .fz (LD L), .fz (.dic (kvD .int fr)), .fz (.int (pre.length : Nat)), .fz (.str p.1), .fz (wsD p.2), u7, u8, .emp, .emp], []⟩ = .ok fl s' ∧
      ((fl = .nx ∧ faultIn fr post Lpost p.1 (better p.2 o) = none ∧ ∃ u7 u8, s' = ⟨[.fz d0, .fz (pplD ps), .fz (LD L), .fz (.dic (kvD .int fr)), .fz (.int (pre.length : Nat)), .fz (.str p.1), .fz (wsD p.2), u7, u8, .emp, .emp], []⟩) ∨
        ∃ f, fl = .ret (.fz (faD f)) ∧ faultIn fr post Lpost p.1 (better p.2 o) = some f ∧ ∃ a b c t, s' = ⟨a :: b :: c :: t, []⟩) := by
  let I : List Str → List Str → Sta → Prop := fun a b s => a ++ b = better p.2 o ∧ faultIn fr post Lpost p.1 a = none ∧ ∃ u7 u8, s = ⟨[.fz d0, .fz (pplD ps), .fz (LD L), .fz (.dic (kvD .int fr)), .fz (.int (pre.length : Nat)), .fz (.str p.1), .fz (wsD p.2), u7, u8, .emp, .emp], []⟩
  let Q : R → Sta → Prop := fun r s => ∃ f, r = .fz (faD f) ∧ faultIn fr post Lpost p.1 (better p.2 o) = some f ∧ ∃ a b c t, s = ⟨a :: b :: c :: t, []⟩
  obtain ⟨fl, s', e, q⟩ := forL_ret (f := loopF g (.nm 7) b18_0) D.str I Q (fun a w b s ⟨hs, hn, u7, u8, e⟩ => by
    subst e
    have mem : w ∈ p.2 := by
      have : w ∈ better p.2 o := by rw [← hs]; simp
      exact List.mem_of_mem_take this
    obtain ⟨v, ev, _⟩ := lk_some (hk w mem)
    have eg : get fr w = v := by unfold get; rw [ev]; rfl
    have three : 3 ≤ LIM := by decide
    by_cases pos : 0 < v
    · refine ⟨.ret (.fz (faD (p.1, w, none))), ⟨[.fz d0, .fz (pplD ps), .fz (LD L), .fz (.dic (kvD .int fr)), .fz (.int (pre.length : Nat)), .fz (.str p.1), .fz (wsD p.2), .fz (.str w), u8, .emp, .emp], []⟩, ?_, .inr ⟨_, rfl, (p.1, w, none), rfl, ?_, _, _, _, _, rfl⟩⟩
      · simp! only [loopF, b18_0, dget_kv, ev, decide_eq_true pos, faD, oD, three]
      · rw [← hs, faultIn_app _ _ _ _ _ _ hn]
        unfold faultIn
        rw [eg, if_pos pos]
    · have dp : List.drop (pre.length + 1) (ps.map perD) = post.map perD := drop_pre1 h1
      have dL : List.drop (pre.length + 1) (L.map oD) = Lpost.map oD := by rw [← hl]; exact drop_pre1 h2
      have lcz : ∀ st : Sta, st.fr = [.fz d0, .fz (pplD ps), .fz (LD L), .fz (.dic (kvD .int fr)), .fz (.int (pre.length : Nat)), .fz (.str p.1), .fz (wsD p.2), .fz (.str w), u8, .emp, .emp] →
          lcL (lcF g (.tn [9, 10]) (.val (.bi (.cm .eq) (.cons (.var 10) (.cons (.var 7) .nil)))) (.bi .idx (.cons (.var 9) (.cons (.cst (.int 0)) .nil))) [9, 10]) ((post.zip Lpost).map fun q => D.tup [perD q.1, oD q.2]) [] st = .ok ((laters post Lpost w).map D.str) st := fun st hst => by
        obtain ⟨sf, so⟩ := st
        cases hst
        rw [lcL_map (fun q : (Str × List Str) × Option Str => D.tup [perD q.1, oD q.2]) (fun q => if q.2 = some w then some (D.str q.1.1) else none) _ (post.zip Lpost) (fun q _ => by
          have a0 : atI [D.str q.1.1, wsD q.1.2] 0 = some (.str q.1.1) := rfl
          by_cases h : q.2 = some w
          · have hb : (q.2 == some w) = true := by rw [h]; exact beq_self_eq_true _
            simp! only [lcF, eqD_oD, hb, h, perD, a0]
          · have hb : (q.2 == some w) = false := beq_eq_false_iff_ne.mpr h
            simp! only [lcF, eqD_oD, hb, h, perD, a0]) (by
          have := k.le
          rw [← h1, List.length_append, List.length_cons] at this
          rw [List.length_zip]
          unfold LIM
          omega)]
        unfold laters
        rw [List.map_filterMap]
        have fe : (fun q : (Str × List Str) × Option Str => if q.2 = some w then some (D.str q.1.1) else none) = fun q => Option.map D.str (if q.2 = some w then some q.1.1 else none) := by
          funext q
          by_cases h : q.2 = some w <;> simp [h]
        rw [fe]
      have okl : okN 60 (.lst ((laters post Lpost w).map D.str)) = true := by
        show ((laters post Lpost w).map D.str).all (okN 59) = true
        rw [List.all_map, List.all_eq_true]
        intro y my
        unfold laters at my
        obtain ⟨q, mq, eq⟩ := List.mem_filterMap.mp my
        split at eq
        · cases eq
          have : q.1 ∈ ps := by
            rw [← h1]
            exact List.mem_append_right _ (List.mem_cons_of_mem _ (List.of_mem_zip mq).1)
          exact okNS (List.mem_append_right _ (k.nm _ this)) 59
        · cases eq
      have nel := lst_ne okl
      cases hla : laters post Lpost w with
      | nil =>
        rw [hla] at nel lcz
        refine ⟨.nx, ⟨[.fz d0, .fz (pplD ps), .fz (LD L), .fz (.dic (kvD .int fr)), .fz (.int (pre.length : Nat)), .fz (.str p.1), .fz (wsD p.2), .fz (.str w), .fz (.lst []), .emp, .emp], []⟩, ?_, .inl ⟨rfl, by rw [List.append_assoc]; exact hs, ?_, _, _, rfl⟩⟩
        · simp! only [loopF, b18_0, dget_kv, ev, decide_eq_false pos, cut_from1, dp, dL, zip_map]
          rw [lcz _ rfl]
          simp! only [List.map_nil, nel, List.isEmpty_nil]
          rfl
        · rw [faultIn_app _ _ _ _ _ _ hn]
          unfold faultIn
          rw [eg, if_neg pos, hla]
          rfl
      | cons y ys =>
        rw [hla] at nel lcz
        have a0 : atI (D.str y :: ys.map D.str) 0 = some (.str y) := Mi.atI_nat (k := 0) rfl
        refine ⟨.ret (.fz (faD (p.1, w, some y))), ⟨[.fz d0, .fz (pplD ps), .fz (LD L), .fz (.dic (kvD .int fr)), .fz (.int (pre.length : Nat)), .fz (.str p.1), .fz (wsD p.2), .fz (.str w), .fz (.lst ((y :: ys).map D.str)), .emp, .emp], []⟩, ?_, .inr ⟨_, rfl, (p.1, w, some y), rfl, ?_, _, _, _, _, rfl⟩⟩
        · simp! only [loopF, b18_0, dget_kv, ev, decide_eq_false pos, cut_from1, dp, dL, zip_map]
          rw [lcz _ rfl]
          simp only [List.map_cons] at nel
          simp! only [List.map_cons, nel, List.isEmpty_cons, a0, faD, oD, three]
        · rw [← hs, faultIn_app _ _ _ _ _ _ hn]
          unfold faultIn
          rw [eg, if_neg pos, hla]) (better p.2 o) [] ⟨[.fz d0, .fz (pplD ps), .fz (LD L), .fz (.dic (kvD .int fr)), .fz (.int (pre.length : Nat)), .fz (.str p.1), .fz (wsD p.2), u7, u8, .emp, .emp], []⟩ ⟨rfl, rfl, _, _, rfl⟩
  refine ⟨fl, s', e, ?_⟩
  rcases q with ⟨q1, q2, q3, q4⟩ | ⟨r, q1, f, q2, q3, q4⟩
  · exact .inl ⟨q1, q3, q4⟩
  · subst q2
    exact .inr ⟨f, q1, q3, q4⟩
end MiQ

set_option Elab.async false
set_option linter.all false
set_option maxRecDepth 100000
set_option maxHeartbeats 1000000
/-! k19: the first fault. -/
namespace MiQ
open PySem L2 Mi MiP
variable {wf n : Nat}
theorem md13 : mdOf text 13 = [false, false] := rfl
theorem va13 : vaOf text 13 = false := rfl
theorem md16 : mdOf text 16 = [false, false] := rfl
theorem va16 : vaOf text 16 = false := rfl
theorem md17 : mdOf text 17 = [false, false, false] := rfl
theorem va17 : vaOf text 17 = false := rfl
theorem freeOf_keys (hp : List (Str × Int)) (L : List (Option Str)) : (freeOf hp L).map (·.1) = hp.map (·.1) := by
  unfold freeOf
  rw [List.map_map]
  rfl
theorem fault_nil (fr : List (Str × Int)) (L : List (Option Str)) : fault fr [] L = none := by cases L <;> rfl
theorem q18 {hp : List (Str × Int)} {ps : List (Str × List Str)} {L : List (Option Str)} (o : HOK hp) (k : POK hp ps) (l : LOK hp ps L) : run0 text wf (n + 5) 18 [.fz (hD hp), .fz (pplD ps), .fz (LD L)] = .ok (.fz (foD (fault (freeOf hp L) ps L))) [.emp, .emp, .emp] [] := by
  rw [rq (F := c18) rfl]
  generalize hfr : freeOf hp L = fr
  have hk : fr.map (·.1) = hp.map (·.1) := by rw [← hfr]; exact freeOf_keys hp L
  let I : List (Str × List Str) → List (Str × List Str) → Sta → Prop := fun pre post s => pre ++ post = ps ∧ (∃ Lpre Lpost, Lpre ++ Lpost = L ∧ Lpre.length = pre.length ∧ fault fr ps L = fault fr post Lpost) ∧
    ∃ u4 u5 u6 u7 u8, s = ⟨[.fz (hD hp), .fz (pplD ps), .fz (LD L), .fz (.dic (kvD .int fr)), u4, u5, u6, u7, u8, .emp, .emp], []⟩
  let Q : R → Sta → Prop := fun r s => r = .fz (foD (fault fr ps L)) ∧ ∃ a b c t, s = ⟨a :: b :: c :: t, []⟩
  obtain ⟨fl, s', e, q⟩ := forL_enumR (f := loopF ⟨run0 text wf (n + 4), mdOf text, vaOf text, wf⟩ (.t2 (.nm 4) (.tn [5, 6])) b18_1) perD I Q (fun pre p post s ⟨hs, ⟨Lpre, Lpost, h1, h2, h3⟩, u4, u5, u6, u7, u8, e⟩ => by
    subst e
    have mem : p ∈ ps := by rw [← hs]; simp
    cases Lpost with
    | nil =>
      exfalso
      have := l.len
      rw [← h1, ← hs, List.append_nil, List.length_append, List.length_cons, h2] at this
      omega
    | cons x Lpost =>
      have gx : L[pre.length]? = some x := by rw [← h2]; exact mid_get h1
      obtain ⟨p', hp1, hp2⟩ := l.mem _ _ gx
      have : ps[pre.length]? = some p := mid_get hs
      rw [this] at hp1
      cases hp1
      have e13 := q13 (wf := wf) (n := n + 3) hp2
      have a1 : atI (L.map oD) (pre.length : Nat) = some (oD x) := Mi.atI_nat (by rw [List.getElem?_map, gx]; rfl)
      have tk : List.take (rankOf p.2 x) (p.2.map D.str) = (better p.2 x).map D.str := (List.map_take ..).symm
      obtain ⟨fl, s', e, q⟩ := faultL (g := ⟨run0 text wf (n + 4), mdOf text, vaOf text, wf⟩) (d0 := hD hp) (u7 := u7) (u8 := u8) k hs h1 h2 (fr := fr) fun w m => by rw [hk]; exact (k.ws p mem).ss w m
      rcases q with ⟨rfl, q2, v7, v8, rfl⟩ | ⟨f, rfl, q2, q3⟩
      · refine ⟨.nx, ⟨[.fz (hD hp), .fz (pplD ps), .fz (LD L), .fz (.dic (kvD .int fr)), .fz (.int (pre.length : Nat)), .fz (.str p.1), .fz (wsD p.2), v7, v8, .emp, .emp], []⟩, ?_, .inl ⟨rfl, by rw [List.append_assoc]; exact hs, ⟨Lpre ++ [x], Lpost, by rw [List.append_assoc]; exact h1, by rw [List.length_append, List.length_append, h2]; rfl, ?_⟩, _, _, _, v7, v8, rfl⟩⟩
        · simp! only [loopF, b18_1, perD, md13, va13, a1, e13, cut_to, tk, e]
        · rw [h3]
          show (faultIn fr post Lpost p.1 (better p.2 x)).or _ = _
          rw [q2]
          rfl
      · refine ⟨.ret (.fz (faD f)), s', ?_, .inr ⟨_, rfl, ?_, q3⟩⟩
        · simp! only [loopF, b18_1, perD, md13, va13, a1, e13, cut_to, tk, e]
        · rw [h3]
          show R.fz (faD f) = .fz (foD ((faultIn fr post Lpost p.1 (better p.2 x)).or _))
          rw [q2]
          rfl) ps ⟨[.fz (hD hp), .fz (pplD ps), .fz (LD L), .fz (.dic (kvD .int fr)), .emp, .emp, .emp, .emp, .emp, .emp, .emp], []⟩ ⟨rfl, ⟨[], L, rfl, rfl, rfl⟩, _, _, _, _, _, rfl⟩
  have e12 := q12 (wf := wf) (n := n + 1) o k
  have e17 := q17 (wf := wf) (n := n + 1) o k l
  have e16 := q16 (wf := wf) (n := n + 2) (L := L) o
  rw [hfr] at e16
  simp only [hD] at e12
  simp! only [c18, b18, hD, md12, va12, e12]
  simp only [hD] at e17 e16 e
  simp! only [md17, va17, e17, md16, va16, e16]
  rw [e]
  rcases q with ⟨rfl, q1, ⟨Lpre, Lpost, _, _, h3⟩, u4, u5, u6, u7, u8, rfl⟩ | ⟨r, rfl, q2, q3⟩
  · rw [h3, fault_nil]
    simp! only [foD]
  · subst q2
    obtain ⟨a, b, c, t, rfl⟩ := q3
    simp! only []
end MiQ

set_option Elab.async false
set_option linter.all false
set_option maxRecDepth 100000
set_option maxHeartbeats 1000000
/-! k19: what is drawn. -/
namespace MiQ
open PySem L2 Mi MiP
variable {wf n : Nat}
abbrev rwD (ns : List Int) (a b c : Int) : D := .lst [.scr ns, .int a, .int b, .int c]
theorem at0 {x y z w : D} : atI [x, y, z, w] 0 = some x := rfl
theorem at1 {x y z w : D} : atI [x, y, z, w] 1 = some y := rfl
theorem at2 {x y z w : D} : atI [x, y, z, w] 2 = some z := rfl
theorem at3 {x y z w : D} : atI [x, y, z, w] 3 = some w := rfl
theorem ix1 : ixN 4 1 = some 1 := rfl
theorem ix2 : ixN 4 2 = some 2 := rfl
theorem ix3 : ixN 4 3 = some 3 := rfl
theorem sm48 : Mi.small64 48271 = true := by decide
theorem f7 : ((7 : Int) ≠ 0 ∧ (7 : Int).natAbs < 1073741824) := by decide
theorem m2147 : ((2147483647 : Int) ≠ 0) := by decide
theorem p1018 : evBI .pow [.int 10, .int 18] = .fz (.int 1000000000000000000) := by
  show (if 0 ≤ (18 : Int) ∧ (18 : Int) ≤ 1000000 ∧ (10 : Int).natAbs < 2 ^ 64 then BR.fz (.int (10 ^ (18 : Int).toNat)) else .bad) = _
  rw [if_pos (by decide)]
  rfl
theorem q19 {ns : List Int} {a b c m : Int} (ha : 0 ≤ a) (h1 : 1 ≤ m) (h2 : m < 1000) : ∃ r a' b' c', 0 ≤ r ∧ r < m ∧ 0 ≤ a' ∧ run0 text wf (n + 1) 19 [.ow (rwD ns a b c) [], .fz (.int m)] = .ok (.fz (.int r)) [.ow (rwD ns a' b' c') [], .emp] [] := by
  have hm0 : m ≠ 0 := by omega
  have hm : m ≠ 0 ∧ m.natAbs < 1073741824 := ⟨hm0, by omega⟩
  have hp : 0 < m := by omega
  by_cases hc : 0 < c
  · refine ⟨c.fmod m, a, b, c.fdiv m, Int.fmod_nonneg_of_pos _ hp, Int.fmod_lt_of_pos _ hp, ha, ?_⟩
    rw [rq (F := c19) rfl]
    simp! only [c19, b19, at3, decide_eq_true hc, hm0, hm, ix3, ne_eq, not_false_eq_true]
  · by_cases hl : a + 1 ≤ (ns.length : Int)
    · obtain ⟨k, hk⟩ := Int.eq_ofNat_of_zero_le ha
      subst hk
      have lk : k < ns.length := by omega
      have gk : ns[k]? = some ns[k] := List.getElem?_eq_getElem lk
      have ak : atI ns ((k : Int) + 1 - 1) = some ns[k] := by
        rw [show ((k : Int) + 1 - 1) = (k : Int) by omega]
        exact Mi.atI_nat gk
      generalize ns[k] = y at ak
      have dl : decide (((ns.length : Nat) : Int) < (k : Int) + 1) = false := decide_eq_false (by omega)
      by_cases hy : 1000000000000000000 ≤ y
      · refine ⟨y.fmod m, (k : Int) + 1, (b * 48271 + y + 11).fmod 2147483647, y.fdiv m, Int.fmod_nonneg_of_pos _ hp, Int.fmod_lt_of_pos _ hp, by omega, ?_⟩
        rw [rq (F := c19) rfl]
        simp! only [c19, b19, at0, at1, at2, at3, decide_eq_false hc, hm0, hm, ix1, ix2, ix3, ne_eq, not_false_eq_true, dl, ak, sm48, or_true, m2147, p1018, decide_eq_true hy]
      · refine ⟨y.fmod m, (k : Int) + 1, (b * 48271 + y + 11).fmod 2147483647, c, Int.fmod_nonneg_of_pos _ hp, Int.fmod_lt_of_pos _ hp, by omega, ?_⟩
        rw [rq (F := c19) rfl]
        simp! only [c19, b19, at0, at1, at2, at3, decide_eq_false hc, hm0, hm, ix1, ix2, ix3, ne_eq, not_false_eq_true, dl, ak, sm48, or_true, m2147, p1018, decide_eq_false hy]
    · have dl : decide (((ns.length : Nat) : Int) < a + 1) = true := decide_eq_true (by omega)
      refine ⟨(((b * 48271 + 11).fmod 2147483647).fdiv 7).fmod m, a + 1, (b * 48271 + 11).fmod 2147483647, c, Int.fmod_nonneg_of_pos _ hp, Int.fmod_lt_of_pos _ hp, by omega, ?_⟩
      rw [rq (F := c19) rfl]
      simp! only [c19, b19, at0, at1, at2, at3, decide_eq_false hc, hm0, hm, ix1, ix2, ix3, ne_eq, not_false_eq_true, dl, sm48, or_true, m2147, f7]
end MiQ

set_option Elab.async false
set_option linter.all false
set_option maxRecDepth 100000
set_option maxHeartbeats 1000000
/-! k19: places, wishes, people that are drawn. -/
namespace MiQ
open PySem L2 Mi MiP
variable {wf n : Nat}
theorem md19 : mdOf text 19 = [true, false] := rfl
theorem va19 : vaOf text 19 = false := rfl
theorem l1 : 1 ≤ LIM := by decide
theorem l2 : 2 ≤ LIM := by decide
theorem l4 : 4 ≤ LIM := by decide
theorem l5 : 5 ≤ LIM := by decide
theorem l8 : 8 ≤ LIM := by decide
theorem l12 : 12 ≤ LIM := by decide
theorem seats5 {r : Int} (h0 : 0 ≤ r) (h1 : r < 5) : ∃ v : Int, atI [D.int 1, .int 1, .int 2, .int 0, .int 3] r = some (.int v) ∧ 0 ≤ v ∧ v ≤ 9 := by
  have : r = 0 ∨ r = 1 ∨ r = 2 ∨ r = 3 ∨ r = 4 := by omega
  rcases this with h | h | h | h | h <;> subst h
  · exact ⟨1, rfl, by decide, by decide⟩
  · exact ⟨1, rfl, by decide, by decide⟩
  · exact ⟨2, rfl, by decide, by decide⟩
  · exact ⟨0, rfl, by decide, by decide⟩
  · exact ⟨3, rfl, by decide, by decide⟩
theorem q20 {ns : List Int} {a b c : Int} (ha : 0 ≤ a) : ∃ (hp : List (Str × Int)) (a' b' c' : Int) (cnt : Nat), 0 ≤ a' ∧ hp.map (·.1) = PN.take cnt ∧ 1 ≤ cnt ∧ cnt ≤ 8 ∧ (∀ p ∈ hp, 0 ≤ p.2 ∧ p.2 ≤ 9) ∧
    run0 text wf (n + 2) 20 [.ow (rwD ns a b c) [], .fz (.int 8)] = .ok (.fz (rowsD hp)) [.ow (rwD ns a' b' c') [], .emp] [] := by
  obtain ⟨r, a1, b1, c1, r0, r1, ha1, e1⟩ := q19 (wf := wf) (n := n) (ns := ns) (a := a) (b := b) (c := c) (m := 8) ha (by decide) (by decide)
  obtain ⟨k, hk⟩ := Int.eq_ofNat_of_zero_le r0
  subst hk
  have hk8 : 1 + k ≤ 8 := by omega
  let st : Int → Int → Int → Sta := fun a b c => ⟨[.ow (rwD ns a b c) [], .fz (.int 8), .fz (.lst (PN.map D.str)), .fz (.int ((1 + k : Nat) : Int)), .emp], []⟩
  let I : List Str → List Str → List D → Sta → Prop := fun pre post acc s => pre ++ post = PN.take (1 + k) ∧ ∃ (q : List (Str × Int)) (a b c : Int), q.map (·.1) = pre ∧ acc = q.map rowD ∧ (∀ p ∈ q, 0 ≤ p.2 ∧ p.2 ≤ 9) ∧ 0 ≤ a ∧ s = st a b c
  obtain ⟨out, s', e, _, q, a2, b2, c2, h1, h2, h3, h4, rfl⟩ := lcL_thru (f := lcF ⟨run0 text wf (n + 1), mdOf text, vaOf text, wf⟩ (.nm 4) .tt (.tupE (.cons (.var 4) (.cons (.bi .idx (.cons (.lstE (.cons (.cst (.int 1)) (.cons (.cst (.int 1)) (.cons (.cst (.int 2)) (.cons (.cst (.int 0)) (.cons (.cst (.int 3)) .nil)))))) (.cons (.call 19 (.cons (.bor 0) (.cons (.cst (.int 5)) .nil))) .nil))) .nil))) [4]) D.str I (fun pre x post acc s ⟨hs, q, a, b, c, h1, h2, h3, h4, e⟩ => by
    subst e
    obtain ⟨r, a', b', c', r0, r1, ha', e19⟩ := q19 (wf := wf) (n := n) (ns := ns) (a := a) (b := b) (c := c) (m := 5) h4 (by decide) (by decide)
    obtain ⟨v, ev, v0, v9⟩ := seats5 r0 r1
    refine ⟨some (rowD (x, v)), st a' b' c', ?_, ?_, by rw [List.append_assoc]; exact hs, q ++ [(x, v)], a', b', c', by rw [List.map_append, h1]; rfl, by rw [h2, List.map_append]; rfl, fun p m => ?_, ha', rfl⟩
    · simp! only [lcF, st, md19, va19, e19, ev, l5, l2, rowD]
    · have : acc.length = pre.length := by rw [h2, List.length_map, ← h1, List.length_map]
      have l : pre.length ≤ 8 := by
        have := congrArg List.length hs
        rw [List.length_append, List.length_take] at this
        omega
      unfold LIM; omega
    · rcases List.mem_append.mp m with z | z
      · exact h3 p z
      · rw [List.mem_singleton.mp z]; exact ⟨v0, v9⟩) (PN.take (1 + k)) [] [] (st a1 b1 c1) ⟨rfl, [], a1, b1, c1, rfl, rfl, fun p m => (by cases m), ha1, rfl⟩
  refine ⟨q, a2, b2, c2, 1 + k, h4, by rw [h1, List.nil_append], by omega, hk8, h3, ?_⟩
  rw [rq (F := c20) rfl]
  have ek : (1 + (k : Int)) = ((1 + k : Nat) : Int) := by omega
  have tk : List.take (1 + k) [D.str "pond", .str "a", .str "zoo", .str "b", .str "hill", .str "c", .str "d", .str "attic"] = (PN.take (1 + k)).map D.str := by
    rw [List.map_take]
    rfl
  have e1 : run0 text wf (n + 1) 19 [.ow (rwD ns a b c) [], .fz (.int 8)] = .ok (.fz (.int (k : Int))) [.ow (rwD ns a1 b1 c1) [], .emp] [] := e1
  have e : lcL _ ((PN.take (1 + k)).map D.str) [] ⟨[.ow (rwD ns a1 b1 c1) [], .fz (.int 8), .fz (.lst [D.str "pond", .str "a", .str "zoo", .str "b", .str "hill", .str "c", .str "d", .str "attic"]), .fz (.int ((1 + k : Nat) : Int)), .emp], []⟩ = .ok out ⟨[.ow (rwD ns a2 b2 c2) [], .fz (.int 8), .fz (.lst [D.str "pond", .str "a", .str "zoo", .str "b", .str "hill", .str "c", .str "d", .str "attic"]), .fz (.int ((1 + k : Nat) : Int)), .emp], []⟩ := e
  simp! only [c20, b20, l8, md19, va19, e1, ek, cut_to, tk]
  rw [e]
  simp! only [h2]
end MiQ

set_option Elab.async false
set_option linter.all false
set_option maxRecDepth 100000
set_option maxHeartbeats 1000000
/-! k19: wishes that are drawn. -/
namespace MiQ
open PySem L2 Mi MiP
variable {wf n : Nat}
theorem map_erase {α β : Type} (f : α → β) : ∀ (xs : List α) (j : Nat), (xs.map f).eraseIdx j = (xs.eraseIdx j).map f
  | [], _ => rfl
  | _ :: _, 0 => rfl
  | x :: xs, j + 1 => by
    show f x :: (xs.map f).eraseIdx j = f x :: (xs.eraseIdx j).map f
    rw [map_erase f xs j]
theorem perm_erase {α : Type} : ∀ {xs : List α} {j : Nat} {x : α}, xs[j]? = some x → (x :: xs.eraseIdx j).Perm xs
  | [], _, _, h => by simp at h
  | y :: ys, 0, x, h => by
    have : y = x := by simpa using h
    subst this
    exact List.Perm.refl _
  | y :: ys, j + 1, x, h => by
    have h : ys[j]? = some x := by simpa using h
    exact (List.Perm.swap y x _).trans ((perm_erase h).cons y)
theorem pop_str {rs : List Str} {j : Nat} {x : Str} (h : rs[j]? = some x) (hl : rs.length ≤ 8) : popL (j : Int) (.lst (rs.map .str)) = some (.str x, .lst ((rs.eraseIdx j).map .str)) := by
  have lt := (List.getElem?_eq_some_iff.mp h).1
  have rk : ranOk (j : Int) = true := by
    unfold ranOk
    rw [Bool.and_eq_true, decide_eq_true_eq, decide_eq_true_eq]
    omega
  have ix : ixN (rs.map D.str).length (j : Int) = some j := by
    unfold ixN
    rw [List.length_map, if_pos (by omega), if_pos (by omega)]
    simp
  show (if ranOk (j : Int) = true then (ixN (rs.map D.str).length (j : Int)).bind fun n => ((rs.map D.str)[n]?).map fun x => (x, D.lst ((rs.map D.str).eraseIdx n)) else none) = _
  rw [if_pos rk, ix]
  show ((rs.map D.str)[j]?).map (fun x => (x, D.lst ((rs.map D.str).eraseIdx j))) = _
  rw [List.getElem?_map, h, map_erase]
  rfl
theorem rk_ok {i : Int} (h0 : 0 ≤ i) (h1 : i < 1000) : ranOk i = true := by
  unfold ranOk
  rw [Bool.and_eq_true, decide_eq_true_eq, decide_eq_true_eq]
  omega
theorem ll_ok {α : Type} {xs : List α} (h : xs.length ≤ 8) : xs.length < LIM := Nat.lt_of_le_of_lt h (by decide)
/-- what is known of the caller's surroundings -/
structure Dr (g : G) : Prop where
  m : g.md 19 = [true, false]
  v : g.va 19 = false
  c : ∀ (ns : List Int) (a b c m : Int), 0 ≤ a → 1 ≤ m → m < 1000 → ∃ r a' b' c', 0 ≤ r ∧ r < m ∧ 0 ≤ a' ∧ g.call 19 [.ow (rwD ns a b c) [], .fz (.int m)] = .ok (.fz (.int r)) [.ow (rwD ns a' b' c') [], .emp] []
theorem dr_of : Dr ⟨run0 text wf (n + 1), mdOf text, vaOf text, wf⟩ := ⟨rfl, rfl, fun _ _ _ _ _ h1 h2 h3 => q19 h1 h2 h3⟩
abbrev st21 (ns : List Int) (hp : List (Str × Int)) (a b c : Int) (rs fs : List Str) (u : Slot) : Sta := ⟨[.ow (rwD ns a b c) [], .fz (rowsD hp), .ow (.lst (rs.map .str)) [], .ow (.lst (fs.map .str)) [], u, .emp], []⟩
/-- _law_taken(_law_row, len(rest)) -/
theorem args21 {g : G} {ns : List Int} {a b c : Int} {d1 : D} {xs : List D} {u3 u4 u5 : Slot} :
    evA g (.cons (.bor 0) (.cons (.bi .len (.cons (.bor 2) .nil)) .nil)) ⟨[.ow (rwD ns a b c) [], .fz d1, .ow (.lst xs) [], u3, u4, u5], []⟩ = .ok [.bo 0, .fz (.int (xs.length : Nat))] ⟨[.ow (rwD ns a b c) [], .fz d1, .ow (.lst xs) [], u3, u4, u5], []⟩ := by
  simp! only []
theorem do21 {g : G} (dr : Dr g) {ns : List Int} {a b c a' b' c' : Int} {m r : Int} {rest : List Slot} (e19 : g.call 19 [.ow (rwD ns a b c) [], .fz (.int m)] = .ok (.fz (.int r)) [.ow (rwD ns a' b' c') [], .emp] []) :
    doCall g 19 [.bo 0, .fz (.int m)] ⟨.ow (rwD ns a b c) [] :: rest, []⟩ = .ok (.fz (.int r)) ⟨.ow (rwD ns a' b' c') [] :: rest, []⟩ := by
  have m19 := dr.m
  have v19 := dr.v
  simp! only [m19, v19, e19]
theorem call21 {g : G} (dr : Dr g) {ns : List Int} {a b c a' b' c' : Int} {d1 : D} {xs : List D} {u3 u4 u5 : Slot} {r : Int} (e19 : g.call 19 [.ow (rwD ns a b c) [], .fz (.int (xs.length : Nat))] = .ok (.fz (.int r)) [.ow (rwD ns a' b' c') [], .emp] []) :
    evE g (.call 19 (.cons (.bor 0) (.cons (.bi .len (.cons (.bor 2) .nil)) .nil))) ⟨[.ow (rwD ns a b c) [], .fz d1, .ow (.lst xs) [], u3, u4, u5], []⟩ = .ok (.fz (.int r)) ⟨[.ow (rwD ns a' b' c') [], .fz d1, .ow (.lst xs) [], u3, u4, u5], []⟩ := by
  rw [evE_call, bindq, args21]
  exact do21 dr e19
theorem pop_gen {g : G} {i : Nat} {e : CE} {st st' st'' : Sta} {k : Int} {r : R} (h0 : ownM i (· == 6) st = .ok () st) (he : evE g e st = .ok (.fz (.int k)) st') (hp : popM i k st' = .ok r st'') : evE g (.pop i e) st = .ok r st'' := by
  have h2 : M.opt ((keepR (.fz (.int k))).bind intOf) = (pure k : M Int) := rfl
  rw [evE_pop, bindq, h0]
  dsimp only
  rw [bindq, he]
  dsimp only
  rw [h2, bindq, pureq]
  exact hp
theorem popM_gen {i : Nat} {k : Int} {st : Sta} {d d' x : D} {sub : List Nat} (h : st.fr[i]? = some (.ow d sub)) (hp : popL k d = some (x, d')) : popM i k st = .ok (.fz x) { st with fr := st.fr.set i (.ow d' sub) } := by
  unfold popM
  rw [h]
  dsimp only
  rw [hp]
theorem pop21 {g : G} (dr : Dr g) {ns : List Int} {a b c a' b' c' : Int} {d1 : D} {rs : List Str} {u3 u4 u5 : Slot} {j : Nat} {x : Str} (e19 : g.call 19 [.ow (rwD ns a b c) [], .fz (.int ((rs.map D.str).length : Nat))] = .ok (.fz (.int (j : Int))) [.ow (rwD ns a' b' c') [], .emp] [])
    (pp : popL (j : Int) (.lst (rs.map .str)) = some (.str x, .lst ((rs.eraseIdx j).map .str))) :
    evE g (.pop 2 (.call 19 (.cons (.bor 0) (.cons (.bi .len (.cons (.bor 2) .nil)) .nil)))) ⟨[.ow (rwD ns a b c) [], .fz d1, .ow (.lst (rs.map .str)) [], u3, u4, u5], []⟩ = .ok (.fz (.str x)) ⟨[.ow (rwD ns a' b' c') [], .fz d1, .ow (.lst ((rs.eraseIdx j).map .str)) [], u3, u4, u5], []⟩ :=
  pop_gen (st' := ⟨[.ow (rwD ns a' b' c') [], .fz d1, .ow (.lst (rs.map .str)) [], u3, u4, u5], []⟩) rfl (call21 dr e19) (popM_gen (d := .lst (rs.map .str)) (sub := []) rfl pp)
theorem app21 {g : G} {e : CE} {st : Sta} {s0 : Slot} {d1 d2 d2' : D} {s0' : Slot} {fs : List Str} {u4 u5 : Slot} {x : Str} (fle : fs.length ≤ 8) (he : evE g e ⟨[s0, .fz d1, .ow d2 [], .ow (.lst (fs.map .str)) [], u4, u5], []⟩ = .ok (.fz (.str x)) ⟨[s0', .fz d1, .ow d2' [], .ow (.lst (fs.map .str)) [], u4, u5], []⟩) :
    evS g (.app 3 e) ⟨[s0, .fz d1, .ow d2 [], .ow (.lst (fs.map .str)) [], u4, u5], []⟩ = .ok .nx ⟨[s0', .fz d1, .ow d2' [], .ow (.lst ((fs ++ [x]).map .str)) [], u4, u5], []⟩ := by
  have ll : (fs.map D.str).length < LIM := ll_ok (by rw [List.length_map]; exact fle)
  have h3 : appI (.str x) (.lst (fs.map .str)) = some (.lst ((fs ++ [x]).map .str)) := by
    rw [appI_ok ll, List.map_append]
    rfl
  have h1 : ownM 3 (· == 6) ⟨[s0, .fz d1, .ow d2 [], .ow (.lst (fs.map .str)) [], u4, u5], []⟩ = .ok () ⟨[s0, .fz d1, .ow d2 [], .ow (.lst (fs.map .str)) [], u4, u5], []⟩ := rfl
  have h2 : keepM (.fz (.str x)) = (pure (.str x) : M D) := rfl
  have h4 : updI 3 (appI (.str x)) ⟨[s0', .fz d1, .ow d2' [], .ow (.lst (fs.map .str)) [], u4, u5], []⟩ = .ok () ⟨[s0', .fz d1, .ow d2' [], .ow (.lst ((fs ++ [x]).map .str)) [], u4, u5], []⟩ := by
    unfold updI
    rw [bindq, getq]
    simp only [List.getElem?_cons_succ, List.getElem?_cons_zero, h3, setq, List.length_cons, List.length_nil, Nat.reduceAdd, Nat.reduceLT, if_true, reduceIte, List.set_cons_succ, List.set_cons_zero]
  rw [evS_app, bindq, h1]
  dsimp only
  rw [bindq, he]
  dsimp only
  rw [h2, bindq, pureq]
  dsimp only
  rw [bindq, h4]
  rfl
theorem step21 {g : G} (dr : Dr g) {ns : List Int} {a b c : Int} {hp : List (Str × Int)} {rs fs : List Str} {u : Slot} {i : Int} (ha : 0 ≤ a) (rpos : 0 < rs.length) (rle : rs.length ≤ 8) (fle : fs.length ≤ 8) : ∃ (a' b' c' : Int) (j : Nat) (x : Str), 0 ≤ a' ∧ rs[j]? = some x ∧
    loopF g (.nm 4) b21_0 (.int i) (st21 ns hp a b c rs fs u) = .ok .nx (st21 ns hp a' b' c' (rs.eraseIdx j) (fs ++ [x]) (.fz (.int i))) := by
  obtain ⟨r, a', b', c', r0, r1, ha', e19⟩ := dr.c ns a b c (rs.length : Int) ha (by omega) (by omega)
  obtain ⟨j, hj⟩ := Int.eq_ofNat_of_zero_le r0
  subst hj
  have jl : j < rs.length := by omega
  have gx : rs[j]? = some rs[j] := List.getElem?_eq_getElem jl
  generalize rs[j] = x at gx
  have pp := pop_str gx rle
  have e19 : g.call 19 [.ow (rwD ns a b c) [], .fz (.int ((rs.map D.str).length : Nat))] = .ok (.fz (.int (j : Int))) [.ow (rwD ns a' b' c') [], .emp] [] := by
    rw [List.length_map]; exact e19
  refine ⟨a', b', c', j, x, ha', gx, ?_⟩
  have h0 : loopF g (.nm 4) b21_0 (.int i) (st21 ns hp a b c rs fs u) = evB g b21_0 (st21 ns hp a b c rs fs (.fz (.int i))) := rfl
  rw [h0]
  unfold b21_0 evB
  rw [bindq, app21 (st := ⟨[], []⟩) fle (pop21 dr e19 pp)]
  dsimp only
  unfold evB
  rfl
theorem loop21 {g : G} (dr : Dr g) {ns : List Int} {hp : List (Str × Int)} {N : Nat} (le : hp.length ≤ 8) (hN : N ≤ hp.length) {enc : Nat → D} (henc : ∀ i, ∃ z, enc i = .int z) {a b c : Int} (ha : 0 ≤ a) : ∃ (fs rs : List Str) (a' b' c' : Int) (u : Slot), (fs ++ rs).Perm (hp.map (·.1)) ∧ fs.length = N ∧ 0 ≤ a' ∧
    forL (loopF g (.nm 4) b21_0) ((List.range N).map enc) (st21 ns hp a b c (hp.map (·.1)) [] .emp) = .ok .nx (st21 ns hp a' b' c' rs fs u) := by
  let I : List Nat → List Nat → Sta → Prop := fun pre post s => pre ++ post = List.range N ∧ ∃ (fs rs : List Str) (a b c : Int) (u : Slot), (fs ++ rs).Perm (hp.map (·.1)) ∧ fs.length = pre.length ∧ 0 ≤ a ∧ s = st21 ns hp a b c rs fs u
  obtain ⟨s', e, hr, fs, rs, a2, b2, c2, u, pm, fl, ha2, rfl⟩ := forL_thru enc I (fun pre i post s ⟨hs, fs, rs, a, b, c, u, pm, fl, ha, e⟩ => by
    subst e
    have tot := pm.length_eq
    rw [List.length_append, List.length_map] at tot
    have prel : pre.length < N := by
      have := congrArg List.length hs
      rw [List.length_append, List.length_cons, List.length_range] at this
      omega
    obtain ⟨z, ez⟩ := henc i
    rw [ez]
    obtain ⟨a', b', c', j, x, ha', gx, es⟩ := step21 dr (ns := ns) (hp := hp) (rs := rs) (fs := fs) (u := u) (i := z) (a := a) (b := b) (c := c) ha (by omega) (by omega) (by omega)
    refine ⟨_, es, by rw [List.append_assoc]; exact hs, fs ++ [x], rs.eraseIdx j, a', b', c', _, ?_, by rw [List.length_append, List.length_append, fl]; rfl, ha', rfl⟩
    rw [List.append_assoc]
    exact (List.Perm.append_left fs (perm_erase gx)).trans pm) (List.range N) [] (st21 ns hp a b c (hp.map (·.1)) [] .emp) ⟨rfl, [], hp.map (·.1), a, b, c, .emp, List.Perm.refl _, rfl, ha, rfl⟩
  exact ⟨fs, rs, a2, b2, c2, u, pm, by rw [fl, List.nil_append, List.length_range], ha2, e⟩
theorem cons_nx {g : G} {s : CS} {r : CB} {st st' : Sta} {x : Res Fl} (h : evS g s st = .ok .nx st') (h2 : evB g r st' = x) : evB g (.cons s r) st = x := by
  conv => lhs; unfold evB
  rw [bindq, h]
  exact h2
theorem rng1_gen {g : G} {e : CE} {st st' : Sta} {i : Int} (he : evE g e st = .ok (.fz (.int i)) st') (hr : ranOk i = true) : evI g (.rng1 e) st = .ok (rngD 0 i) st' := by
  conv => lhs; unfold evI
  rw [bindq, he]
  dsimp only
  rw [bindq, keepq]
  dsimp only [keepR]
  rw [if_pos hr]
  rfl
theorem for_gen {g : G} {tg : Tg} {src : CI} {b : CB} {st st' : Sta} {ds : List D} {x : Res Fl} (h : evI g src st = .ok ds st') (h2 : forL (loopF g tg b) ds st' = x) : evS g (.forS tg src b) st = x := by
  rw [evS_for, bindq, h]
  exact h2
theorem add1_gen {g : G} {e : CE} {st st' : Sta} {k j : Int} (he : evE g e st = .ok (.fz (.int j)) st') : evE g (.bi .add (.cons (.cst (.int k)) (.cons e .nil))) st = .ok (.fz (.int (k + j))) st' := by
  simp! only [he]
theorem q21 {ns : List Int} {a b c : Int} {hp : List (Str × Int)} (ha : 0 ≤ a) (ne : hp ≠ []) (le : hp.length ≤ 8) (nd : (hp.map (·.1)).Nodup) : ∃ (ws : List Str) (a' b' c' : Int), 0 ≤ a' ∧ WOK hp ws ∧
    run0 text wf (n + 2) 21 [.ow (rwD ns a b c) [], .fz (rowsD hp)] = .ok (.fz (wsD ws)) [.ow (rwD ns a' b' c') [], .emp] [] := by
  have len0 : 0 < hp.length := List.length_pos_iff.mpr ne
  rw [rq (F := c21) rfl]
  have dr := dr_of (wf := wf) (n := n)
  generalize (⟨run0 text wf (n + 1), mdOf text, vaOf text, wf⟩ : G) = g at dr
  obtain ⟨r, a1, b1, c1, r0, r1, ha1, e1⟩ := dr.c ns a b c (hp.length : Int) ha (by omega) (by omega)
  obtain ⟨k, hk⟩ := Int.eq_ofNat_of_zero_le r0
  subst hk
  obtain ⟨fs, rs, a2, b2, c2, u, pm, fl, ha2, e⟩ := loop21 dr (ns := ns) (hp := hp) (N := 1 + k) le (by omega) (enc := fun i => .int (0 + (i : Int))) (fun i => ⟨_, rfl⟩) (a := a1) (b := b1) (c := c1) ha1
  refine ⟨fs, a2, b2, c2, ha2, ⟨fun z => ?_, (List.nodup_append.mp (pm.nodup_iff.mpr nd)).1, fun w m => pm.mem_iff.mp (List.mem_append_left _ m)⟩, ?_⟩
  · rw [z, List.length_nil] at fl
    omega
  · have er : hp.map (fun p => D.str p.1) = (hp.map (·.1)).map D.str := by rw [List.map_map]; rfl
    have e1 : g.call 19 [.ow (rwD ns a b c) [], .fz (.int (((hp.map (·.1)).map D.str).length : Nat))] = .ok (.fz (.int (k : Int))) [.ow (rwD ns a1 b1 c1) [], .emp] [] := by
      rw [List.length_map, List.length_map]; exact e1
    have er2 : rngD 0 (1 + (k : Int)) = (List.range (1 + k)).map fun (i : Nat) => D.int (0 + (i : Int)) := by
      unfold rngD
      rw [show (1 + (k : Int) - 0).toNat = 1 + k by omega]
    have s1 : evS g (.par2 2 true (.lc (.val (.var 1)) (.nm 5) .tt (.bi .idx (.cons (.var 5) (.cons (.cst (.int 0)) .nil))) [5]) 3 true (.lstE .nil)) ⟨[.ow (rwD ns a b c) [], .fz (rowsD hp), .emp, .emp, .emp, .emp], []⟩ = .ok .nx (st21 ns hp a b c (hp.map (·.1)) [] .emp) := by
      simp! only []
      rw [lcL_all rowD (fun p => D.str p.1) _ hp (fun p _ => by
        have a0 : atI [D.str p.1, D.int p.2] 0 = some (.str p.1) := rfl
        simp! only [lcF, rowD, a0]) (Nat.le_trans le l8), er]
      simp! only [st21, List.map_nil]
    have s2 : evS g (.forS (.nm 4) (.rng1 (.bi .add (.cons (.cst (.int 1)) (.cons (.call 19 (.cons (.bor 0) (.cons (.bi .len (.cons (.bor 2) .nil)) .nil))) .nil)))) b21_0) (st21 ns hp a b c (hp.map (·.1)) [] .emp) = .ok .nx (st21 ns hp a2 b2 c2 rs fs u) :=
      for_gen (rng1_gen (add1_gen (call21 dr e1)) (rk_ok (by omega) (by omega))) (by rw [er2]; exact e)
    have s3 : evB g (.cons (.ret (.bi .toTup (.cons (.bor 3) .nil))) .nil) (st21 ns hp a2 b2 c2 rs fs u) = .ok (.ret (.fz (wsD fs))) (st21 ns hp a2 b2 c2 rs fs u) := by
      simp! only [st21]
    have sb : evB g b21 ⟨[.ow (rwD ns a b c) [], .fz (rowsD hp), .emp, .emp, .emp, .emp], []⟩ = .ok (.ret (.fz (wsD fs))) (st21 ns hp a2 b2 c2 rs fs u) := cons_nx s1 (cons_nx s2 s3)
    show (match evB g b21 ⟨[.ow (rwD ns a b c) [], .fz (rowsD hp), .emp, .emp, .emp, .emp], []⟩ with
      | .ok (.ret (.bo _)) _ => FR.bad
      | .ok (.ret r) s => .ok r (maskS c21.md (s.fr.take 2)) s.out
      | .ok .nx s => .ok (.fz .non) (maskS c21.md (s.fr.take 2)) s.out
      | .exc c vs s => .exc c vs (maskS c21.md (s.fr.take 2)) s.out
      | _ => .bad).nox = _
    rw [sb]
    rfl
end MiQ

set_option Elab.async false
set_option linter.all false
set_option maxRecDepth 100000
set_option maxHeartbeats 1000000
/-! k19: steps by composition. -/
namespace MiQ
open PySem L2 Mi MiP
variable {wf n : Nat}
/-- f(row, e), row the first name's own -/
theorem callb_gen {g : G} {j : Nat} {e : CE} {o o' : D} {sub sub' : List Nat} {rest : List Slot} {out : List D} {d : D} {r : R} {s1 : Slot} (hm : g.md j = [true, false]) (hv : g.va j = false) (he : evE g e ⟨.ow o sub :: rest, out⟩ = .ok (.fz d) ⟨.ow o sub :: rest, out⟩)
    (hc : g.call j [.ow o sub, .fz d] = .ok r [.ow o' sub', s1] []) : evE g (.call j (.cons (.bor 0) (.cons e .nil))) ⟨.ow o sub :: rest, out⟩ = .ok r ⟨.ow o' sub' :: rest, out⟩ := by
  have ha : evA g (.cons (.bor 0) (.cons e .nil)) ⟨.ow o sub :: rest, out⟩ = .ok [.bo 0, .fz d] ⟨.ow o sub :: rest, out⟩ := by
    simp! only [he]
  rw [evE_call, bindq, ha]
  dsimp only
  simp! only [hm, hv, hc]
theorem asg_gen {g : G} {i : Nat} {e : CE} {st st' st'' : Sta} {r : R} {d : D} (he : evE g e st = .ok r st') (hk : keepR r = some d) (hs : setS i (.fz d) st' = .ok () st'') : evS g (.asg i false e) st = .ok .nx st'' := by
  rw [evS_asg, bindq, he]
  dsimp only
  rw [bindq]
  have hb : Mi.bindM i false r st' = .ok () st'' := by
    unfold Mi.bindM
    cases r with
    | fz d0 =>
      cases hk
      exact hs
    | ow d0 sub =>
      cases sub with
      | nil => cases hk; exact hs
      | cons _ _ => cases hk
    | bo _ => cases hk
  rw [hb]
  rfl
theorem ite_t {g : G} {t : CT} {b1 b2 : CB} {st st' : Sta} {x : Res Fl} (h : evT g t st = .ok true st') (h2 : evB g b1 st' = x) : evS g (.ite t b1 b2) st = x := by
  rw [evS_ite, bindq, h]
  exact h2
theorem ite_f {g : G} {t : CT} {b1 b2 : CB} {st st' : Sta} {x : Res Fl} (h : evT g t st = .ok false st') (h2 : evB g b2 st' = x) : evS g (.ite t b1 b2) st = x := by
  rw [evS_ite, bindq, h]
  exact h2
theorem idx1_gen {g : G} {e : CE} {st st' : Sta} {xs : List D} {i : Int} {d : D} (he : evE g e st = .ok (.fz (.tup xs)) st') (h : atI xs i = some d) : evE g (.bi .idx (.cons e (.cons (.cst (.int i)) .nil))) st = .ok (.fz d) st' := by
  simp! only [he, h]
theorem nil_nx {g : G} {st : Sta} : evB g .nil st = .ok .nx st := by
  unfold evB
  rfl
/-- what is known of the caller's surroundings: _law_taken, _law_wishes -/
structure Dw (g : G) : Prop where
  dr : Dr g
  m : g.md 21 = [true, false]
  v : g.va 21 = false
  c : ∀ (ns : List Int) (a b c : Int) (hp : List (Str × Int)), 0 ≤ a → hp ≠ [] → hp.length ≤ 8 → (hp.map (·.1)).Nodup → ∃ (ws : List Str) (a' b' c' : Int), 0 ≤ a' ∧ WOK hp ws ∧
    g.call 21 [.ow (rwD ns a b c) [], .fz (rowsD hp)] = .ok (.fz (wsD ws)) [.ow (rwD ns a' b' c') [], .emp] []
theorem dw_of : Dw ⟨run0 text wf (n + 2), mdOf text, vaOf text, wf⟩ := ⟨dr_of, rfl, rfl, fun _ _ _ _ _ h1 h2 h3 h4 => q21 h1 h2 h3 h4⟩
/-- the state of _law_people -/
abbrev st22 (ns : List Int) (hp : List (Str × Int)) (a b c : Int) (nm : List Str) (fs : List (Str × List Str)) (u5 u6 : Slot) : Sta := ⟨[.ow (rwD ns a b c) [], .fz (rowsD hp), .fz (.int 9), .fz (.lst (nm.map .str)), .ow (.lst (fs.map perD)) [], u5, u6], []⟩
theorem step22 {g : G} (dw : Dw g) {ns : List Int} {a b c : Int} {hp : List (Str × Int)} {nm : List Str} {fs : List (Str × List Str)} {u5 u6 : Slot} {x : Str} (ha : 0 ≤ a) (ne : hp ≠ []) (le : hp.length ≤ 8) (nd : (hp.map (·.1)).Nodup) (hpn : ∀ p ∈ hp, p.1 ∈ PN)
    (fl : fs.length ≤ 12) (hf : ∀ p ∈ fs, p.1 ∈ QN ∧ WOK hp p.2) : ∃ (ws : List Str) (a' b' c' : Int) (u6' : Slot), 0 ≤ a' ∧ WOK hp ws ∧
    loopF g (.nm 5) b22_0 (.str x) (st22 ns hp a b c nm fs u5 u6) = .ok .nx (st22 ns hp a' b' c' nm (fs ++ [(x, ws)]) (.fz (.str x)) u6') := by
  obtain ⟨ws1, a1, b1, c1, ha1, w1, e21⟩ := dw.c ns a b c hp ha ne le nd
  have h0 : loopF g (.nm 5) b22_0 (.str x) (st22 ns hp a b c nm fs u5 u6) = evB g b22_0 (st22 ns hp a b c nm fs (.fz (.str x)) u6) := rfl
  have s1 : evS g (.asg 6 false (.call 21 (.cons (.bor 0) (.cons (.var 1) .nil)))) (st22 ns hp a b c nm fs (.fz (.str x)) u6) = .ok .nx (st22 ns hp a1 b1 c1 nm fs (.fz (.str x)) (.fz (wsD ws1))) :=
    asg_gen (callb_gen dw.m dw.v (by simp! only []) e21) rfl rfl
  have last : ∀ (ws : List Str) (a b c : Int), evS g (.app 4 (.tupE (.cons (.var 5) (.cons (.var 6) .nil)))) (st22 ns hp a b c nm fs (.fz (.str x)) (.fz (wsD ws))) = .ok .nx (st22 ns hp a b c nm (fs ++ [(x, ws)]) (.fz (.str x)) (.fz (wsD ws))) := fun ws a b c => by
    have ll : (fs.map perD).length < LIM := by rw [List.length_map]; unfold LIM; omega
    have h3 : appI (.tup [.str x, wsD ws]) (.lst (fs.map perD)) = some (.lst ((fs ++ [(x, ws)]).map perD)) := by
      rw [appI_ok ll, List.map_append]
      rfl
    simp! only [st22, l2, h3]
  have okp : okN 60 (.lst (fs.map perD)) = true := by
    show (fs.map perD).all (okN 59) = true
    rw [List.all_map, List.all_eq_true]
    intro p m
    show ([D.str p.1, wsD p.2].all (okN 58)) = true
    have hw : okN 58 (wsD p.2) = true := by
      show (p.2.map D.str).all (okN 57) = true
      rw [List.all_map, List.all_eq_true]
      intro w mw
      obtain ⟨q, mq, eq⟩ := List.mem_map.mp ((hf p m).2.ss w mw)
      rw [← eq]
      exact okNS (List.mem_append_left _ (hpn q mq)) 57
    simp only [List.all_cons, List.all_nil, hw, okNS (List.mem_append_right _ (hf p m).1) 58]
    rfl
  have nel := lst_ne okp
  have t1 : evT g (.val (.bi (.cm .ne) (.cons (.bor 4) (.cons (.lstE .nil) .nil)))) (st22 ns hp a1 b1 c1 nm fs (.fz (.str x)) (.fz (wsD ws1))) = .ok (!fs.isEmpty) (st22 ns hp a1 b1 c1 nm fs (.fz (.str x)) (.fz (wsD ws1))) := by
    have e : (fs.map perD).isEmpty = fs.isEmpty := by cases fs <;> rfl
    rw [e] at nel
    simp! only [st22, nel]
  cases fs with
  | nil =>
    refine ⟨ws1, a1, b1, c1, .fz (wsD ws1), ha1, w1, ?_⟩
    rw [h0]
    refine cons_nx s1 (cons_nx (ite_f (st' := st22 ns hp a1 b1 c1 nm [] (.fz (.str x)) (.fz (wsD ws1))) ?_ (by unfold evB; rfl)) (cons_nx (last ws1 a1 b1 c1) (by unfold evB; rfl)))
    rw [evT_and, t1]
    rfl
  | cons p0 ps0 =>
    obtain ⟨r2, a2, b2, c2, r20, r21, ha2, e2⟩ := dw.dr.c ns a1 b1 c1 2 ha1 (by decide) (by decide)
    have t2 : evT g (.val (.bi (.cm .eq) (.cons (.call 19 (.cons (.bor 0) (.cons (.cst (.int 2)) .nil))) (.cons (.cst (.int 0)) .nil)))) (st22 ns hp a1 b1 c1 nm (p0 :: ps0) (.fz (.str x)) (.fz (wsD ws1))) = .ok (r2 == 0) (st22 ns hp a2 b2 c2 nm (p0 :: ps0) (.fz (.str x)) (.fz (wsD ws1))) := by
      have hc := callb_gen (g := g) (e := .cst (.int 2)) (rest := [.fz (rowsD hp), .fz (.int 9), .fz (.lst (nm.map .str)), .ow (.lst ((p0 :: ps0).map perD)) [], .fz (.str x), .fz (wsD ws1)]) (out := []) dw.dr.m dw.dr.v (by simp! only []) e2
      dsimp! only [st22, hc]
    by_cases z : (r2 == 0) = true
    · obtain ⟨r3, a3, b3, c3, r30, r31, ha3, e3⟩ := dw.dr.c ns a2 b2 c2 (((p0 :: ps0).map perD).length : Nat) ha2 (by rw [List.length_map, List.length_cons]; omega) (by rw [List.length_map]; omega)
      obtain ⟨k, hk⟩ := Int.eq_ofNat_of_zero_le r30
      subst hk
      have kl : k < (p0 :: ps0).length := by rw [List.length_map] at r31; omega
      have gp : (p0 :: ps0)[k]? = some (p0 :: ps0)[k] := List.getElem?_eq_getElem kl
      generalize (p0 :: ps0)[k] = p at gp
      have pm : p ∈ p0 :: ps0 := List.mem_of_getElem? gp
      have a1' : atI ((p0 :: ps0).map perD) (k : Nat) = some (perD p) := Mi.atI_nat (by rw [List.getElem?_map, gp]; rfl)
      have a2' : atI [D.str p.1, wsD p.2] 1 = some (wsD p.2) := rfl
      have hc := callb_gen (g := g) (e := .bi .len (.cons (.bor 4) .nil)) (rest := [.fz (rowsD hp), .fz (.int 9), .fz (.lst (nm.map .str)), .ow (.lst ((p0 :: ps0).map perD)) [], .fz (.str x), .fz (wsD ws1)]) (out := []) dw.dr.m dw.dr.v (by simp! only []) e3
      have e4 : evE g (.bi .idx (.cons (.bor 4) (.cons (.call 19 (.cons (.bor 0) (.cons (.bi .len (.cons (.bor 4) .nil)) .nil))) .nil))) (st22 ns hp a2 b2 c2 nm (p0 :: ps0) (.fz (.str x)) (.fz (wsD ws1))) = .ok (.fz (perD p)) (st22 ns hp a3 b3 c3 nm (p0 :: ps0) (.fz (.str x)) (.fz (wsD ws1))) := by
        generalize hL : (p0 :: ps0).map perD = L at *
        dsimp! only [st22, hL, hc, a1']
      have e5 : evE g (.bi .idx (.cons (.bi .idx (.cons (.bor 4) (.cons (.call 19 (.cons (.bor 0) (.cons (.bi .len (.cons (.bor 4) .nil)) .nil))) .nil))) (.cons (.cst (.int 1)) .nil))) (st22 ns hp a2 b2 c2 nm (p0 :: ps0) (.fz (.str x)) (.fz (wsD ws1))) = .ok (.fz (wsD p.2)) (st22 ns hp a3 b3 c3 nm (p0 :: ps0) (.fz (.str x)) (.fz (wsD ws1))) := by
        exact idx1_gen e4 a2'
      refine ⟨p.2, a3, b3, c3, .fz (wsD p.2), ha3, (hf p pm).2, ?_⟩
      rw [h0]
      refine cons_nx s1 (cons_nx (ite_t (st' := st22 ns hp a2 b2 c2 nm (p0 :: ps0) (.fz (.str x)) (.fz (wsD ws1))) ?_ (cons_nx (asg_gen e5 rfl rfl) nil_nx)) (cons_nx (last p.2 a3 b3 c3) nil_nx))
      rw [evT_and, t1]
      dsimp only
      rw [show (!(p0 :: ps0).isEmpty) = true from rfl, if_pos rfl, t2, z]
    · refine ⟨ws1, a2, b2, c2, .fz (wsD ws1), ha2, w1, ?_⟩
      rw [h0]
      refine cons_nx s1 (cons_nx (ite_f (st' := st22 ns hp a2 b2 c2 nm (p0 :: ps0) (.fz (.str x)) (.fz (wsD ws1))) ?_ nil_nx) (cons_nx (last ws1 a2 b2 c2) nil_nx))
      have z : (r2 == 0) = false := by simpa using z
      rw [evT_and, t1]
      dsimp only
      rw [show (!(p0 :: ps0).isEmpty) = true from rfl, if_pos rfl, t2, z]
theorem loop22 {g : G} (dw : Dw g) {ns : List Int} {a b c : Int} {hp : List (Str × Int)} {k : Nat} (ha : 0 ≤ a) (ne : hp ≠ []) (le : hp.length ≤ 8) (nd : (hp.map (·.1)).Nodup) (hpn : ∀ p ∈ hp, p.1 ∈ PN) (hk : k ≤ 12) :
    ∃ (fs : List (Str × List Str)) (a' b' c' : Int) (u5 u6 : Slot), 0 ≤ a' ∧ POK hp fs ∧ forL (loopF g (.nm 5) b22_0) ((QN.take k).map D.str) (st22 ns hp a b c QN [] .emp .emp) = .ok .nx (st22 ns hp a' b' c' QN fs u5 u6) := by
  let I : List Str → List Str → Sta → Prop := fun pre post s => pre ++ post = QN.take k ∧ ∃ (fs : List (Str × List Str)) (a b c : Int) (u5 u6 : Slot), fs.map (·.1) = pre ∧ (∀ p ∈ fs, p.1 ∈ QN ∧ WOK hp p.2) ∧ 0 ≤ a ∧ s = st22 ns hp a b c QN fs u5 u6
  obtain ⟨s', e, hr, fs, a', b', c', u5, u6, h1, h2, h3, rfl⟩ := forL_thru (f := loopF g (.nm 5) b22_0) D.str I (fun pre x post s ⟨hs, fs, a, b, c, u5, u6, h1, h2, h3, e⟩ => by
    subst e
    have ql : pre.length ≤ 12 := by
      have := congrArg List.length hs
      rw [List.length_append, List.length_take] at this
      have q12 : QN.length = 12 := rfl
      omega
    have xm : x ∈ QN := List.mem_of_mem_take (i := k) (by rw [← hs]; simp)
    obtain ⟨ws, a', b', c', u6', ha', wk, es⟩ := step22 dw (ns := ns) (a := a) (b := b) (c := c) (hp := hp) (nm := QN) (fs := fs) (u5 := u5) (u6 := u6) (x := x) h3 ne le nd hpn (by
      have := congrArg List.length h1
      rw [List.length_map] at this
      omega) h2
    refine ⟨_, es, by rw [List.append_assoc]; exact hs, fs ++ [(x, ws)], a', b', c', _, u6', by rw [List.map_append, h1]; rfl, fun p m => ?_, ha', rfl⟩
    rcases List.mem_append.mp m with z | z
    · exact h2 p z
    · rw [List.mem_singleton.mp z]; exact ⟨xm, wk⟩) (QN.take k) [] (st22 ns hp a b c QN [] .emp .emp) ⟨rfl, [], a, b, c, .emp, .emp, rfl, fun p m => (by cases m), ha, rfl⟩
  refine ⟨fs, a', b', c', u5, u6, h3, ⟨?_, ?_, fun p m => (h2 p m).1, fun p m => (h2 p m).2⟩, e⟩
  · have := congrArg List.length h1
    rw [List.length_map, List.nil_append, List.length_take] at this
    omega
  · rw [h1, List.nil_append]
    exact (show QN.Nodup by decide +kernel).sublist (List.take_sublist _ _)
theorem q22 {ns : List Int} {a b c : Int} {hp : List (Str × Int)} (ha : 0 ≤ a) (ne : hp ≠ []) (le : hp.length ≤ 8) (nd : (hp.map (·.1)).Nodup) (hpn : ∀ p ∈ hp, p.1 ∈ PN) : ∃ (ps : List (Str × List Str)) (a' b' c' : Int), 0 ≤ a' ∧ POK hp ps ∧
    run0 text wf (n + 3) 22 [.ow (rwD ns a b c) [], .fz (rowsD hp), .fz (.int 9)] = .ok (.fz (pplD ps)) [.ow (rwD ns a' b' c') [], .emp, .emp] [] := by
  rw [rq (F := c22) rfl]
  have dw := dw_of (wf := wf) (n := n)
  generalize (⟨run0 text wf (n + 2), mdOf text, vaOf text, wf⟩ : G) = g at dw
  obtain ⟨r, a1, b1, c1, r0, r1, ha1, e1⟩ := dw.dr.c ns a b c 10 ha (by decide) (by decide)
  obtain ⟨k, hk⟩ := Int.eq_ofNat_of_zero_le r0
  subst hk
  obtain ⟨fs, a2, b2, c2, u5, u6, ha2, pk, e⟩ := loop22 dw (ns := ns) (a := a1) (b := b1) (c := c1) (hp := hp) (k := k) ha1 ne le nd hpn (by omega)
  refine ⟨fs, a2, b2, c2, ha2, pk, ?_⟩
  have s3 : evE g (.call 19 (.cons (.bor 0) (.cons (.bi .add (.cons (.var 2) (.cons (.cst (.int 1)) .nil))) .nil))) (st22 ns hp a b c QN [] .emp .emp) = .ok (.fz (.int (k : Int))) (st22 ns hp a1 b1 c1 QN [] .emp .emp) :=
    callb_gen dw.dr.m dw.dr.v (by simp! only []; rfl) e1
  have s4 : evI g (.val (.bi (.slc false true) (.cons (.var 3) (.cons (.call 19 (.cons (.bor 0) (.cons (.bi .add (.cons (.var 2) (.cons (.cst (.int 1)) .nil))) .nil))) .nil)))) (st22 ns hp a b c QN [] .emp .emp) = .ok ((QN.take k).map D.str) (st22 ns hp a1 b1 c1 QN [] .emp .emp) := by
    have hb : evE g (.bi (.slc false true) (.cons (.var 3) (.cons (.call 19 (.cons (.bor 0) (.cons (.bi .add (.cons (.var 2) (.cons (.cst (.int 1)) .nil))) .nil))) .nil))) (st22 ns hp a b c QN [] .emp .emp) = .ok (.ow (.lst (cut (QN.map D.str) none (some (k : Int)))) []) (st22 ns hp a1 b1 c1 QN [] .emp .emp) := by
      generalize QN = q at s3 ⊢
      dsimp! only [st22, s3]
    conv => lhs; unfold evI
    rw [bindq, hb]
    dsimp only
    rw [bindq, keepq]
    dsimp only [keepR]
    rw [cut_to, ← List.map_take]
    rfl
  have s1 : evS g (.asg 3 false (.lstE (.cons (.cst (.str "ann")) (.cons (.cst (.str "cid")) (.cons (.cst (.str "bob")) (.cons (.cst (.str "eve")) (.cons (.cst (.str "dan")) (.cons (.cst (.str "fay")) (.cons (.cst (.str "x")) (.cons (.cst (.str "zed")) (.cons (.cst (.str "kim")) (.cons (.cst (.str "lou")) (.cons (.cst (.str "max")) (.cons (.cst (.str "ned")) .nil)))))))))))))) ⟨[.ow (rwD ns a b c) [], .fz (rowsD hp), .fz (.int 9), .emp, .emp, .emp, .emp], []⟩ =
      .ok .nx ⟨[.ow (rwD ns a b c) [], .fz (rowsD hp), .fz (.int 9), .fz (.lst (QN.map .str)), .emp, .emp, .emp], []⟩ := by
    simp! only [l12]
    rfl
  have s2 : evS g (.asg 4 true (.lstE .nil)) ⟨[.ow (rwD ns a b c) [], .fz (rowsD hp), .fz (.int 9), .fz (.lst (QN.map .str)), .emp, .emp, .emp], []⟩ = .ok .nx (st22 ns hp a b c QN [] .emp .emp) := by
    simp! only [st22, List.map_nil]
  have s5 : evB g (.cons (.ret (.bi .toTup (.cons (.bor 4) .nil))) .nil) (st22 ns hp a2 b2 c2 QN fs u5 u6) = .ok (.ret (.fz (pplD fs))) (st22 ns hp a2 b2 c2 QN fs u5 u6) := by
    simp! only [st22]
  have sb : evB g b22 ⟨[.ow (rwD ns a b c) [], .fz (rowsD hp), .fz (.int 9), .emp, .emp, .emp, .emp], []⟩ = .ok (.ret (.fz (pplD fs))) (st22 ns hp a2 b2 c2 QN fs u5 u6) := cons_nx s1 (cons_nx s2 (cons_nx (for_gen s4 e) s5))
  show (match evB g b22 ⟨[.ow (rwD ns a b c) [], .fz (rowsD hp), .fz (.int 9), .emp, .emp, .emp, .emp], []⟩ with
    | .ok (.ret (.bo _)) _ => FR.bad
    | .ok (.ret r) s => .ok r (maskS c22.md (s.fr.take 3)) s.out
    | .ok .nx s => .ok (.fz .non) (maskS c22.md (s.fr.take 3)) s.out
    | .exc c vs s => .exc c vs (maskS c22.md (s.fr.take 3)) s.out
    | _ => .bad).nox = _
  rw [sb]
  rfl
end MiQ

set_option Elab.async false
set_option linter.all false
set_option maxRecDepth 100000
set_option maxHeartbeats 1000000
/-! k19: the house. -/
namespace MiQ
open PySem L2 Mi MiP
variable {wf n : Nat}
theorem pairs_rows : ∀ (hp : List (Str × Int)), pairsOf (hp.map rowD) = some (kvD .int hp)
  | [] => rfl
  | p :: hp => by
    show ((Mi.keyOf (.str p.1)).bind fun k' => (pairsOf (hp.map rowD)).map fun kvs => (k', .int p.2) :: kvs) = _
    rw [pairs_rows hp]
    rfl
theorem merge_kv : ∀ (hp acc : List (Str × Int)), ((acc ++ hp).map (·.1)).Nodup → mergeD (kvD .int acc) (kvD .int hp) = kvD .int (acc ++ hp)
  | [], acc, _ => by rw [List.append_nil]; rfl
  | p :: hp, acc, nd => by
    have nk : lk acc p.1 = none := lk_none (by
      rw [List.map_append, List.map_cons] at nd
      exact nd_mid nd)
    show mergeD (dput (kvD .int acc) (.inr p.1) (.int p.2)) (kvD .int hp) = _
    rw [dput_new nk, merge_kv hp (acc ++ [(p.1, p.2)]) (by rw [List.append_assoc]; exact nd), List.append_assoc]
    rfl
theorem toDic_rows {hp : List (Str × Int)} (nd : (hp.map (·.1)).Nodup) : evBI .toDic [rowsD hp] = .ow (.dic (kvD .int hp)) := by
  show (match pairsOf (hp.map rowD) with | some kvs => BR.ow (.dic (mergeD [] kvs)) | none => .bad) = _
  rw [pairs_rows]
  have := merge_kv hp [] nd
  show BR.ow (.dic (mergeD [] (kvD .int hp))) = _
  rw [show ([] : List (Key × D)) = kvD .int [] from rfl, this]
  rfl
theorem u_get {f : List (Str × Int)} {x : Str} : evBI .getD [.dic (kvD .int f), .str x, .int 0] = .fz (.int ((lk f x).getD 0)) := by
  show BR.fz ((dget (kvD D.int f) (.inr x)).getD (.int 0)) = _
  rw [dget_kv]
  cases lk f x <;> rfl
/-- what is known of the caller's surroundings: with_seats -/
structure Dh (g : G) : Prop where
  m : g.md 9 = [false, false, false]
  v : g.va 9 = false
  c : ∀ (hp : List (Str × Int)) (x : Str) (v : Int), HOK hp → x ∈ hp.map (·.1) → 0 ≤ v → v ≤ 9 → g.call 9 [.fz (hD hp), .fz (.str x), .fz (.int v)] = .ok (.ow (hD (up hp x v)) []) [.emp, .emp, .emp] []
theorem dh_of : Dh ⟨run0 text wf (n + 4), mdOf text, vaOf text, wf⟩ := ⟨rfl, rfl, fun _ _ _ h1 h2 h3 h4 => q9 h1 h2 h3 h4⟩
theorem step23 {g : G} (dh : Dh g) {d0 : D} {f hp : List (Str × Int)} {x : Str} {u : Slot} (o : HOK hp) (hx : x ∈ hp.map (·.1)) (hf : ∀ p ∈ f, 0 ≤ p.2 ∧ p.2 ≤ 9) : ∃ v : Int, 0 ≤ v ∧ v ≤ 9 ∧
    loopF g (.nm 3) b23_0 (.str x) ⟨[.fz d0, .fz (hD hp), .fz (.dic (kvD .int f)), u], []⟩ = .ok .nx ⟨[.fz d0, .fz (hD (up hp x v)), .fz (.dic (kvD .int f)), .fz (.str x)], []⟩ := by
  have hv : 0 ≤ (lk f x).getD 0 ∧ (lk f x).getD 0 ≤ 9 := by
    cases h : lk f x with
    | none => exact ⟨by decide, by decide⟩
    | some v =>
      have : x ∈ f.map (·.1) := Classical.byContradiction fun z => by rw [lk_none z] at h; cases h
      obtain ⟨w, e, m⟩ := lk_some this
      rw [e] at h
      cases h
      exact hf _ m
  generalize hw : (lk f x).getD 0 = v at hv
  have ug := u_get (f := f) (x := x)
  rw [hw] at ug
  have c9 := dh.c hp x v o hx hv.1 hv.2
  have m9 := dh.m
  have v9 := dh.v
  refine ⟨v, hv.1, hv.2, ?_⟩
  simp only [hD] at c9
  simp! only [loopF, b23_0, hD, ug, m9, v9, c9]
theorem loop23 {g : G} (dh : Dh g) {d0 : D} {f hp : List (Str × Int)} (o : HOK hp) (hf : ∀ p ∈ f, 0 ≤ p.2 ∧ p.2 ≤ 9) : ∃ (hp' : List (Str × Int)) (u : Slot), HOK hp' ∧ hp'.map (·.1) = hp.map (·.1) ∧
    forL (loopF g (.nm 3) b23_0) ((hp.map (·.1)).map D.str) ⟨[.fz d0, .fz (hD hp), .fz (.dic (kvD .int f)), .emp], []⟩ = .ok .nx ⟨[.fz d0, .fz (hD hp'), .fz (.dic (kvD .int f)), u], []⟩ := by
  let I : List Str → List Str → Sta → Prop := fun pre post s => pre ++ post = hp.map (·.1) ∧ ∃ (h : List (Str × Int)) (u : Slot), HOK h ∧ h.map (·.1) = hp.map (·.1) ∧ s = ⟨[.fz d0, .fz (hD h), .fz (.dic (kvD .int f)), u], []⟩
  obtain ⟨s', e, _, h', u', o', e', rfl⟩ := forL_thru (f := loopF g (.nm 3) b23_0) D.str I (fun pre x post s ⟨hs, h, u, oh, eh, e⟩ => by
    subst e
    have hx : x ∈ h.map (·.1) := by rw [eh, ← hs]; simp
    obtain ⟨v, v0, v9, es⟩ := step23 dh (d0 := d0) (f := f) (u := u) oh hx hf
    exact ⟨_, es, by rw [List.append_assoc]; exact hs, up h x v, _, hok_up oh v0 v9, by rw [up_keys]; exact eh, rfl⟩) (hp.map (·.1)) [] ⟨[.fz d0, .fz (hD hp), .fz (.dic (kvD .int f)), .emp], []⟩ ⟨rfl, hp, .emp, o, rfl, rfl⟩
  exact ⟨h', u', o', e', e⟩
/-- .. House.single -/
structure Ds (g : G) : Prop where
  m : g.md 4 = [false]
  v : g.va 4 = true
  c : ∀ (xs : List Str), HOK (xs.map fun x => (x, 1)) → g.call 4 [.fz (.cls 0), .fz (.tup (xs.map .str))] = .ok (.ow (hD (xs.map fun x => (x, 1))) []) [.emp, .emp] []
theorem ds_of : Ds ⟨run0 text wf (n + 4), mdOf text, vaOf text, wf⟩ := ⟨rfl, rfl, fun _ h => q4 h⟩
theorem single_gen {g : G} (ds : Ds g) {xs : List Str} {ca : CA} {st : Sta} (o : HOK (xs.map fun x => (x, 1))) (hl : xs.length ≤ 8) (ha : evA g ca st = .ok ((xs.map D.str).map R.fz) st) : evE g (.cmeth 0 "single" 4 ca) st = .ok (.ow (hD (xs.map fun x => (x, 1))) []) st := by
  have m4 := ds.m
  have v4 := ds.v
  have c4 := ds.c xs o
  have ll : xs.length ≤ LIM := Nat.le_trans hl l8
  simp! only [ha, boAll_fz, m4, v4, keepAll_fz, List.length_map, ll, c4]
end MiQ

set_option Elab.async false
set_option linter.all false
set_option maxRecDepth 100000
set_option maxHeartbeats 1000000
/-! k19: the plain law. -/
namespace MiQ
open PySem L2 Mi MiP
abbrev Ppl := List (Str × List Str)
abbrev Fre := List (Str × Int)
theorem laters_cons {p : Str × List Str} {ps : Ppl} {o : Option Str} {L : List (Option Str)} {w : Str} : laters (p :: ps) (o :: L) w = if o = some w then p.1 :: laters ps L w else laters ps L w := by
  unfold laters
  rw [List.zip_cons_cons, List.filterMap_cons]
  by_cases h : o = some w <;> simp [h]
theorem laters_nil {w : Str} : ∀ {ps : Ppl} {L : List (Option Str)}, L.length = ps.length → (laters ps L w = [] ↔ L.count (some w) = 0)
  | [], [], _ => ⟨fun _ => rfl, fun _ => rfl⟩
  | [], _ :: _, h => by cases h
  | _ :: _, [], h => by cases h
  | p :: ps, o :: L, h => by
    rw [laters_cons, List.count_cons]
    have h' : L.length = ps.length := by simpa using h
    by_cases e : o = some w
    · subst e
      simp
    · rw [if_neg e, laters_nil h']
      have : (o == some w) = false := beq_eq_false_iff_ne.mpr e
      rw [this]
      simp
theorem idx_ne {x v : Str} {ws : List Str} (h : v ≠ x) : (v :: ws).idxOf x = ws.idxOf x + 1 := by
  rw [List.idxOf_cons, beq_eq_false_iff_ne.mpr h]
  rfl
theorem better_none (ws : List Str) : better ws none = ws := List.take_length
theorem better_eq {x : Str} {ws : List Str} : better (x :: ws) (some x) = [] := by
  unfold better
  have : rankOf (x :: ws) (some x) = 0 := List.idxOf_cons_self
  rw [this]
  rfl
theorem better_ne {x v : Str} {ws : List Str} (h : v ≠ x) : better (v :: ws) (some x) = v :: better ws (some x) := by
  unfold better
  have : rankOf (v :: ws) (some x) = rankOf ws (some x) + 1 := idx_ne h
  rw [this]
  rfl
theorem better_sub {ws : List Str} {o : Option Str} {w : Str} (h : w ∈ better ws o) : w ∈ ws := List.mem_of_mem_take h
theorem better_not {w : Str} : ∀ {ws : List Str} {o : Option Str}, w ∈ better ws o → o ≠ some w
  | _, none, _ => fun h => by cases h
  | [], some x, h => by cases h
  | v :: ws, some x, h => by
    by_cases e : v = x
    · subst e
      rw [better_eq] at h
      cases h
    · rw [better_ne e] at h
      rcases List.mem_cons.mp h with z | z
      · subst z
        intro q
        cases q
        exact e rfl
      · exact better_not z
theorem pick_of {fr : Fre} : ∀ {ws : List Str} {o : Option Str}, (∀ w ∈ better ws o, ¬ 0 < get fr w) → (∀ x, o = some x → x ∈ ws ∧ 0 < get fr x) → pick fr ws = o
  | [], none, _, _ => rfl
  | [], some x, _, h => by cases (h x rfl).1
  | v :: ws, none, h1, h2 => by
    rw [better_none] at h1
    show (if 0 < get fr v then some v else pick fr ws) = none
    rw [if_neg (h1 v List.mem_cons_self)]
    exact pick_of (fun w m => h1 w (List.mem_cons_of_mem _ (better_sub m))) fun x e => by cases e
  | v :: ws, some x, h1, h2 => by
    show (if 0 < get fr v then some v else pick fr ws) = some x
    by_cases e : v = x
    · subst e
      rw [if_pos (h2 v rfl).2]
    · rw [better_ne e] at h1
      rw [if_neg (h1 v List.mem_cons_self)]
      refine pick_of (fun w m => h1 w (List.mem_cons_of_mem _ m)) fun y ey => ?_
      cases ey
      rcases List.mem_cons.mp (h2 x rfl).1 with z | z
      · exact absurd z.symm e
      · exact ⟨z, (h2 x rfl).2⟩
theorem pick_better {fr : Fre} : ∀ {ws : List Str} {o : Option Str}, pick fr ws = o → ∀ w ∈ better ws o, ¬ 0 < get fr w
  | [], o, _, w, m => by cases (better_sub m)
  | v :: ws, o, h, w, m => by
    have h : (if 0 < get fr v then some v else pick fr ws) = o := h
    by_cases p : 0 < get fr v
    · rw [if_pos p] at h
      subst h
      rw [better_eq] at m
      cases m
    · rw [if_neg p] at h
      cases o with
      | none =>
        rw [better_none] at m
        rcases List.mem_cons.mp m with z | z
        · rw [z]; exact p
        · exact pick_better h w (by rw [better_none]; exact z)
      | some x =>
        by_cases e : v = x
        · subst e
          rw [better_eq] at m
          cases m
        · rw [better_ne e] at m
          rcases List.mem_cons.mp m with z | z
          · rw [z]; exact p
          · exact pick_better h w z
theorem pick_mem {fr : Fre} {x : Str} : ∀ {ws : List Str}, pick fr ws = some x → x ∈ ws ∧ 0 < get fr x
  | [], h => by cases h
  | v :: ws, h => by
    have h : (if 0 < get fr v then some v else pick fr ws) = some x := h
    by_cases p : 0 < get fr v
    · rw [if_pos p] at h
      cases h
      exact ⟨List.mem_cons_self, p⟩
    · rw [if_neg p] at h
      exact ⟨List.mem_cons_of_mem _ (pick_mem h).1, (pick_mem h).2⟩
theorem get_up {fr : Fre} {x y : Str} {v : Int} (h : x ∈ fr.map (·.1)) : get (up fr x v) y = if y = x then v else get fr y := by
  obtain ⟨w, e, _⟩ := lk_some h
  unfold get
  rw [lk_up]
  by_cases q : y = x
  · rw [if_pos q, if_pos q, e]; rfl
  · rw [if_neg q, if_neg q]
def isO (o : Option Str) (w : Str) : Nat := if o = some w then 1 else 0
theorem get_dec {fr : Fre} {o : Option Str} {w : Str} (h : ∀ x, o = some x → x ∈ fr.map (·.1)) : get (decO fr o) w = get fr w - (isO o w : Nat) := by
  cases o with
  | none =>
    show get fr w = _
    unfold isO
    simp
  | some x =>
    show get (up fr x (get fr x - 1)) w = _
    rw [get_up (h x rfl)]
    unfold isO
    by_cases q : w = x
    · subst q; simp
    · have q' : ¬ (some x = some w) := fun z => q (Option.some.inj z).symm
      rw [if_neg q, if_neg q']
      simp
theorem count_o {o : Option Str} {L : List (Option Str)} {w : Str} : (o :: L).count (some w) = L.count (some w) + isO o w := by
  rw [List.count_cons]
  unfold isO
  by_cases q : o = some w
  · subst q; simp
  · rw [if_neg q, beq_eq_false_iff_ne.mpr q]; simp
theorem faultIn_none {fr : Fre} {ps : Ppl} {L : List (Option Str)} {nm : Str} : ∀ {ws : List Str}, faultIn fr ps L nm ws = none ↔ ∀ w ∈ ws, ¬ 0 < get fr w ∧ laters ps L w = []
  | [] => ⟨fun _ w m => (by cases m), fun _ => rfl⟩
  | w :: ws => by
    have un : faultIn fr ps L nm (w :: ws) = if 0 < get fr w then some (nm, w, none) else match laters ps L w with
      | y :: _ => some (nm, w, some y)
      | [] => faultIn fr ps L nm ws := rfl
    rw [un]
    by_cases p : 0 < get fr w
    · rw [if_pos p]
      exact ⟨fun h => (by cases h), fun h => absurd p (h w List.mem_cons_self).1⟩
    · rw [if_neg p]
      cases hl : laters ps L w with
      | nil =>
        dsimp only
        rw [faultIn_none]
        constructor
        · intro h v m
          rcases List.mem_cons.mp m with z | z
          · rw [z]; exact ⟨p, hl⟩
          · exact h v z
        · exact fun h v m => h v (List.mem_cons_of_mem _ m)
      | cons y ys =>
        dsimp only
        exact ⟨fun h => (by cases h), fun h => by have := (h w List.mem_cons_self).2; rw [hl] at this; cases this⟩
theorem none_iff : ∀ {ps : Ppl} {L : List (Option Str)} {f0 fin : Fre}, L.length = ps.length → (∀ q ∈ ps.zip L, ∀ x, q.2 = some x → x ∈ q.1.2) → (∀ p ∈ ps, ∀ w ∈ p.2, w ∈ f0.map (·.1)) →
    (∀ w ∈ f0.map (·.1), get fin w = get f0 w - (L.count (some w) : Nat)) → (∀ w ∈ f0.map (·.1), 0 ≤ get fin w) → (fault fin ps L = none ↔ L = (takes f0 ps).map (·.2))
  | [], [], _, _, _, _, _, _, _ => ⟨fun _ => rfl, fun _ => rfl⟩
  | [], _ :: _, _, _, h, _, _, _, _ => by cases h
  | _ :: _, [], _, _, h, _, _, _, _ => by cases h
  | p :: ps, o :: L, f0, fin, hl, hw, hk, hf, h0 => by
    have hl' : L.length = ps.length := by simpa using hl
    have hw' : ∀ q ∈ ps.zip L, ∀ x, q.2 = some x → x ∈ q.1.2 := fun q m => hw q (by rw [List.zip_cons_cons]; exact List.mem_cons_of_mem _ m)
    have hwo : ∀ x, o = some x → x ∈ p.2 := fun x e => hw (p, o) (by rw [List.zip_cons_cons]; exact List.mem_cons_self) x e
    have hko : ∀ x, o = some x → x ∈ f0.map (·.1) := fun x e => hk p List.mem_cons_self x (hwo x e)
    have un : fault fin (p :: ps) (o :: L) = (faultIn fin ps L p.1 (better p.2 o)).or (fault fin ps L) := rfl
    have ut : (takes f0 (p :: ps)).map (·.2) = pick f0 p.2 :: (takes (decO f0 (pick f0 p.2)) ps).map (·.2) := rfl
    rw [un, ut, Option.or_eq_none_iff, faultIn_none]
    have bet : ∀ w ∈ better p.2 o, isO o w = 0 := fun w m => if_neg (better_not m)
    have key : (∀ w ∈ better p.2 o, ¬ 0 < get fin w ∧ laters ps L w = []) ↔ o = pick f0 p.2 := by
      constructor
      · intro h
        refine (pick_of (fun w m => ?_) fun x e => ⟨hwo x e, ?_⟩).symm
        · have a := h w m
          have b := hf w (hk p List.mem_cons_self w (better_sub m))
          rw [count_o, bet w m, (laters_nil hl').mp a.2] at b
          have := a.1
          simp at b
          omega
        · have b := hf x (hko x e)
          have c := h0 x (hko x e)
          rw [count_o] at b
          have d : isO o x = 1 := if_pos e
          rw [d] at b
          omega
      · intro h w m
        have a := pick_better h.symm w m
        have kw := hk p List.mem_cons_self w (better_sub m)
        have b := hf w kw
        have c := h0 w kw
        rw [count_o, bet w m] at b
        refine ⟨by omega, (laters_nil hl').mpr (by omega)⟩
    rw [key]
    have dk := decO_keys f0 o
    have ih := none_iff (f0 := decO f0 o) (fin := fin) hl' hw' (fun q m w mw => by rw [dk]; exact hk q (List.mem_cons_of_mem _ m) w mw) (fun w m => by
      rw [dk] at m
      have := hf w m
      rw [get_dec hko]
      rw [count_o] at this
      omega) (fun w m => by rw [dk] at m; exact h0 w m)
    constructor
    · rintro ⟨e, h⟩
      rw [← e, ih.mp h]
    · intro h
      have h1 := (List.cons.inj h).1
      refine ⟨h1, ih.mpr ?_⟩
      rw [h1]
      exact (List.cons.inj h).2
theorem get_mem {hp : Fre} (nd : (hp.map (·.1)).Nodup) {p : Str × Int} (m : p ∈ hp) : get hp p.1 = p.2 := by
  induction hp with
  | nil => cases m
  | cons q hp ih =>
    rw [List.map_cons, List.nodup_cons] at nd
    unfold get lk
    rcases List.mem_cons.mp m with z | z
    · subst z
      rw [if_pos rfl]; rfl
    · have ne : q.1 ≠ p.1 := fun e => nd.1 (by rw [e]; exact List.mem_map.mpr ⟨p, z, rfl⟩)
      rw [if_neg ne]
      exact ih nd.2 z
theorem get_free {hp : Fre} {L : List (Option Str)} {w : Str} (h : w ∈ hp.map (·.1)) : get (freeOf hp L) w = get hp w - (L.count (some w) : Nat) := by
  induction hp with
  | nil => cases h
  | cons q hp ih =>
    have un : freeOf (q :: hp) L = (q.1, q.2 - (L.count (some q.1) : Nat)) :: freeOf hp L := rfl
    rw [un]
    unfold get lk
    by_cases e : q.1 = w
    · rw [if_pos e, if_pos e, ← e]; rfl
    · rw [if_neg e, if_neg e]
      rcases List.mem_cons.mp h with z | z
      · exact absurd z.symm e
      · exact ih z
section
variable {hp : Fre} {ps : Ppl} {L : List (Option Str)}
theorem lok_zip (l : LOK hp ps L) : ∀ q ∈ ps.zip L, ∀ x, q.2 = some x → x ∈ q.1.2 := fun q m x e => by
  obtain ⟨k, hk⟩ := List.mem_iff_getElem?.mp m
  rw [List.getElem?_zip_eq_some] at hk
  obtain ⟨p, h1, h2⟩ := l.mem k q.2 hk.2
  rw [hk.1] at h1
  cases h1
  exact h2 x e
theorem free_nn (o : HOK hp) (l : LOK hp ps L) : ∀ w ∈ hp.map (·.1), 0 ≤ get (freeOf hp L) w := fun w m => by
  rw [get_free m]
  obtain ⟨p, mp, e⟩ := List.mem_map.mp m
  subst e
  have := l.cnt p mp
  rw [get_mem o.nd mp]
  omega
theorem fault_none (o : HOK hp) (k : POK hp ps) (l : LOK hp ps L) : fault (freeOf hp L) ps L = none ↔ L = (takes hp ps).map (·.2) :=
  none_iff l.len (lok_zip l) (fun p m w mw => (k.ws p m).ss w mw) (fun w m => get_free m) (free_nn o l)
theorem takes_mem : ∀ {ps : Ppl} {f0 : Fre} (k : Nat) (o : Option Str), ((takes f0 ps).map (·.2))[k]? = some o → ∃ p, ps[k]? = some p ∧ ∀ x, o = some x → x ∈ p.2
  | [], _, k, o, h => by simp [takes] at h
  | p :: ps, f0, 0, o, h => ⟨p, rfl, fun x e => by
    have h : some (pick f0 p.2) = some o := h
    cases h
    exact (pick_mem e).1⟩
  | p :: ps, f0, k + 1, o, h => takes_mem (ps := ps) k o h
theorem takes_cnt {w : Str} : ∀ {ps : Ppl} {f0 : Fre}, (∀ p ∈ ps, ∀ v ∈ p.2, v ∈ f0.map (·.1)) → 0 ≤ get f0 w → ((((takes f0 ps).map (·.2)).count (some w) : Nat) : Int) ≤ get f0 w
  | [], _, _, h => h
  | p :: ps, f0, hk, h => by
    have ut : (takes f0 (p :: ps)).map (·.2) = pick f0 p.2 :: (takes (decO f0 (pick f0 p.2)) ps).map (·.2) := rfl
    have gd : get (decO f0 (pick f0 p.2)) w = get f0 w - (isO (pick f0 p.2) w : Nat) := get_dec fun x e => hk p List.mem_cons_self x (pick_mem e).1
    have nn : 0 ≤ get (decO f0 (pick f0 p.2)) w := by
      rw [gd]
      unfold isO
      split
      · rename_i e
        have := (pick_mem e).2
        omega
      · omega
    have ih := takes_cnt (ps := ps) (f0 := decO f0 (pick f0 p.2)) (fun q m v mv => by rw [decO_keys]; exact hk q (List.mem_cons_of_mem _ m) v mv) nn
    rw [ut, count_o]
    omega
theorem takes_lok (o : HOK hp) (k : POK hp ps) : LOK hp ps ((takes hp ps).map (·.2)) where
  len := by rw [List.length_map, takes_len]
  mem := takes_mem
  cnt := fun p m => by
    have := takes_cnt (w := p.1) (ps := ps) (f0 := hp) (fun q mq v mv => (k.ws q mq).ss v mv) (by rw [get_mem o.nd m]; exact (o.st p m).1)
    rw [get_mem o.nd m] at this
    exact this
/-! a fault that is told -/
theorem faultIn_some {fr : Fre} {nm : Str} {f : Str × Str × Option Str} : ∀ {ws : List Str}, faultIn fr ps L nm ws = some f → ∃ a w b, ws = a ++ w :: b ∧ (∀ v ∈ a, ¬ 0 < get fr v ∧ laters ps L v = []) ∧
    ((0 < get fr w ∧ f = (nm, w, none)) ∨ (¬ 0 < get fr w ∧ ∃ y ys, laters ps L w = y :: ys ∧ f = (nm, w, some y)))
  | [], h => by cases h
  | w :: ws, h => by
    have un : faultIn fr ps L nm (w :: ws) = if 0 < get fr w then some (nm, w, none) else match laters ps L w with
      | y :: _ => some (nm, w, some y)
      | [] => faultIn fr ps L nm ws := rfl
    rw [un] at h
    by_cases p : 0 < get fr w
    · rw [if_pos p] at h
      cases h
      exact ⟨[], w, ws, rfl, fun v m => (by cases m), .inl ⟨p, rfl⟩⟩
    · rw [if_neg p] at h
      cases hl : laters ps L w with
      | nil =>
        rw [hl] at h
        obtain ⟨a, v, b, e, h1, h2⟩ := faultIn_some h
        refine ⟨w :: a, v, b, by rw [e]; rfl, fun u m => ?_, h2⟩
        rcases List.mem_cons.mp m with z | z
        · rw [z]; exact ⟨p, hl⟩
        · exact h1 u z
      | cons y ys =>
        rw [hl] at h
        cases h
        exact ⟨[], w, ws, rfl, fun v m => (by cases m), .inr ⟨p, y, ys, hl, rfl⟩⟩
theorem fault_some {fr : Fre} {f : Str × Str × Option Str} : ∀ {ps : Ppl} {L : List (Option Str)}, fault fr ps L = some f → ∃ pre p post Lpre o Lpost, ps = pre ++ p :: post ∧ L = Lpre ++ o :: Lpost ∧ Lpre.length = pre.length ∧ faultIn fr post Lpost p.1 (better p.2 o) = some f
  | [], L, h => by rw [fault_nil] at h; cases h
  | _ :: _, [], h => by cases h
  | p :: ps, o :: L, h => by
    have h : (faultIn fr ps L p.1 (better p.2 o)).or (fault fr ps L) = some f := h
    cases hf : faultIn fr ps L p.1 (better p.2 o) with
    | some g =>
      rw [hf] at h
      cases h
      exact ⟨[], p, ps, [], o, L, rfl, rfl, rfl, hf⟩
    | none =>
      rw [hf] at h
      obtain ⟨pre, q, post, Lpre, o', Lpost, e1, e2, e3, e4⟩ := fault_some h
      exact ⟨p :: pre, q, post, o :: Lpre, o', Lpost, by rw [e1]; rfl, by rw [e2]; rfl, by rw [List.length_cons, List.length_cons, e3], e4⟩
/-- the one who holds it -/
theorem laters_holder {w y : Str} {ys : List Str} : ∀ {ps : Ppl} {L : List (Option Str)}, laters ps L w = y :: ys → ∃ (m : Nat) (p : Str × List Str), ps[m]? = some p ∧ p.1 = y ∧ L[m]? = some (some w)
  | [], L, h => by cases h
  | _ :: _, [], h => by cases h
  | p :: ps, o :: L, h => by
    rw [laters_cons] at h
    by_cases e : o = some w
    · rw [if_pos e] at h
      cases h
      exact ⟨0, p, rfl, rfl, by rw [e]; rfl⟩
    · rw [if_neg e] at h
      obtain ⟨m, q, h1, h2, h3⟩ := laters_holder h
      exact ⟨m + 1, q, h1, h2, h3⟩
theorem lok_set (l : LOK hp ps L) {k : Nat} {p : Str × List Str} {o o' : Option Str} (hp1 : ps[k]? = some p) (ho : L[k]? = some o) (hw : ∀ x, o' = some x → x ∈ p.2) (hc : ∀ q ∈ hp, (((L.set k o').count (some q.1) : Nat) : Int) ≤ q.2) : LOK hp ps (L.set k o') where
  len := by rw [List.length_set]; exact l.len
  mem := fun i z h => by
    rw [List.getElem?_set] at h
    by_cases e : k = i
    · subst e
      rw [if_pos rfl] at h
      split at h
      · cases h
        exact ⟨p, hp1, hw⟩
      · cases h
    · rw [if_neg e] at h
      exact l.mem i z h
  cnt := hc
theorem count_setO {L : List (Option Str)} {k : Nat} {o o' : Option Str} {w : Str} (ho : L[k]? = some o) : (L.set k o').count (some w) + isO o w = L.count (some w) + isO o' w := by
  induction L generalizing k with
  | nil => simp at ho
  | cons z L ih =>
    cases k with
    | zero =>
      have ho : z = o := by simpa using ho
      subst ho
      rw [List.set_cons_zero, count_o, count_o]
      omega
    | succ k =>
      have ho : L[k]? = some o := by simpa using ho
      have := ih ho
      rw [List.set_cons_succ, count_o, count_o]
      omega
/-- mended where a seat is free -/
theorem mend_free (o : HOK hp) (l : LOK hp ps L) {k : Nat} {p : Str × List Str} {c : Option Str} {w : Str} (hp1 : ps[k]? = some p) (ho : L[k]? = some c) (hw : w ∈ p.2) (wk : w ∈ hp.map (·.1)) (hf : 0 < get (freeOf hp L) w) : LOK hp ps (L.set k (some w)) :=
  lok_set l hp1 ho (fun x e => by cases e; exact hw) fun q m => by
    have a := count_setO (o' := some w) (w := q.1) ho
    have b := l.cnt q m
    by_cases e : w = q.1
    · subst e
      rw [get_free wk, get_mem o.nd m] at hf
      have c1 : isO (some q.1) q.1 = 1 := if_pos rfl
      omega
    · have c1 : isO (some w) q.1 = 0 := if_neg fun z => e (Option.some.inj z)
      omega
/-- mended where a later one holds it -/
theorem mend_held (l : LOK hp ps L) {k j : Nat} {p p2 : Str × List Str} {c : Option Str} {w : Str} (hp1 : ps[k]? = some p) (ho : L[k]? = some c) (hw : w ∈ p.2) (kj : k ≠ j) (hp2 : ps[j]? = some p2) (hj : L[j]? = some (some w)) : LOK hp ps ((L.set k (some w)).set j none) := by
  have hj' : (L.set k (some w))[j]? = some (some w) := by rw [List.getElem?_set, if_neg kj]; exact hj
  have g : ∀ q ∈ hp, ((((L.set k (some w)).set j none).count (some q.1) : Nat) : Int) ≤ q.2 := fun q m => by
    have a := count_setO (o' := some w) (w := q.1) ho
    have b := count_setO (o' := none) (w := q.1) hj'
    have d := l.cnt q m
    have e : isO none q.1 = 0 := rfl
    omega
  refine ⟨by rw [List.length_set, List.length_set]; exact l.len, fun i z h => ?_, g⟩
  rw [List.getElem?_set] at h
  by_cases e : j = i
  · subst e
    rw [if_pos rfl] at h
    split at h
    · cases h
      exact ⟨p2, hp2, fun x e => by cases e⟩
    · cases h
  · rw [if_neg e, List.getElem?_set] at h
    by_cases e2 : k = i
    · subst e2
      rw [if_pos rfl] at h
      split at h
      · cases h
        exact ⟨p, hp1, fun x e => by cases e; exact hw⟩
      · cases h
    · rw [if_neg e2] at h
      exact l.mem i z h
end
end MiQ

set_option Elab.async false
set_option linter.all false
set_option maxRecDepth 100000
set_option maxHeartbeats 1000000
/-! k19: the house that is made. -/
namespace MiQ
open PySem L2 Mi MiP
variable {wf n : Nat}
abbrev one (xs : List Str) : Fre := xs.map fun x => (x, 1)
theorem hok_one {k : Nat} (h1 : 1 ≤ k) : HOK (one (PN.take k)) where
  ne := fun z => by
    have := congrArg List.length z
    rw [List.length_map, List.length_take] at this
    have p : PN.length = 8 := rfl
    simp [p] at this
    omega
  le := by
    rw [List.length_map, List.length_take]
    have p : PN.length = 8 := rfl
    omega
  nd := by
    rw [List.map_map]
    show ((PN.take k).map id).Nodup
    rw [List.map_id]
    exact (show PN.Nodup by decide +kernel).sublist (List.take_sublist _ _)
  nm := fun p m => by
    obtain ⟨x, mx, e⟩ := List.mem_map.mp m
    subst e
    exact List.mem_of_mem_take mx
  st := fun p m => by
    obtain ⟨x, mx, e⟩ := List.mem_map.mp m
    subst e
    exact ⟨(by decide : (0 : Int) ≤ 1), (by decide : (1 : Int) ≤ 9)⟩
theorem one_keys (xs : List Str) : (one xs).map (·.1) = xs := by
  rw [List.map_map]
  show xs.map id = xs
  exact List.map_id _
theorem asg_st {g : G} {i : Nat} {e : CE} {st st'' : Sta} {r : R} {d : D} (he : evE g e st = .ok r st) (hk : keepR r = some d) (hs : setS i (.fz d) st = .ok () st'') : evS g (.asg i false e) st = .ok .nx st'' := asg_gen he hk hs
theorem ite_nx {g : G} {t : CT} {b : CB} {st st' : Sta} {c : Bool} (h : evT g t st = .ok c st) (h1 : c = true → evB g b st = .ok .nx st') (h2 : c = false → st' = st) : evS g (.ite t b .nil) st = .ok .nx st' := by
  cases c with
  | true => exact ite_t h (h1 rfl)
  | false => rw [h2 rfl]; exact ite_f h nil_nx
abbrev st23 (hp : Fre) (xs : List Str) : Sta := ⟨[.fz (rowsD hp), .fz (hD (one xs)), .emp, .emp], []⟩
theorem asg23 {g : G} (ds : Ds g) {hp : Fre} {k : Nat} {ca : CA} (h1 : 1 ≤ k) {u : Slot} (ha : ∀ st, evA g ca st = .ok (((PN.take k).map D.str).map R.fz) st) : evS g (.asg 1 false (.cmeth 0 "single" 4 ca)) ⟨[.fz (rowsD hp), u, .emp, .emp], []⟩ = .ok .nx (st23 hp (PN.take k)) :=
  asg_gen (single_gen ds (hok_one h1) (by
    rw [List.length_take]
    have p : PN.length = 8 := rfl
    omega) (ha _)) rfl rfl
theorem any34 {i a b : Int} : anyEq (.int i) [.int a, .int b] = some ((a == i) || ((b == i) || false)) := rfl
theorem q23 {hp : Fre} {cnt : Nat} (hk : hp.map (·.1) = PN.take cnt) (c1 : 1 ≤ cnt) (c8 : cnt ≤ 8) (hs : ∀ p ∈ hp, 0 ≤ p.2 ∧ p.2 ≤ 9) : ∃ hp' : Fre, HOK hp' ∧ (∀ w ∈ hp.map (·.1), w ∈ hp'.map (·.1)) ∧ run0 text wf (n + 5) 23 [.fz (rowsD hp)] = .ok (.fz (hD hp')) [.emp] [] := by
  rw [rq (F := c23) rfl]
  have dh := dh_of (wf := wf) (n := n)
  have ds := ds_of (wf := wf) (n := n)
  have c6 : ∀ h : Fre, (⟨run0 text wf (n + 4), mdOf text, vaOf text, wf⟩ : G).call 6 [.fz (hD h)] = .ok (.fz (.tup ((h.map (·.1)).map .str))) [.emp] [] := fun h => q6 (wf := wf) (n := n + 3)
  have m6 : (⟨run0 text wf (n + 4), mdOf text, vaOf text, wf⟩ : G).md 6 = [false] := rfl
  have v6 : (⟨run0 text wf (n + 4), mdOf text, vaOf text, wf⟩ : G).va 6 = false := rfl
  generalize (⟨run0 text wf (n + 4), mdOf text, vaOf text, wf⟩ : G) = g at dh ds c6 m6 v6
  have nd : (hp.map (·.1)).Nodup := by
    rw [hk]
    exact (show PN.Nodup by decide +kernel).sublist (List.take_sublist _ _)
  have hlen : (hp.map rowD).length = cnt := by
    have := congrArg List.length hk
    rw [List.length_map, List.length_take] at this
    have p : PN.length = 8 := rfl
    rw [List.length_map]
    omega
  have tl : ∀ (u1 u2 u3 : Slot), evE g (.bi .len (.cons (.var 0) .nil)) ⟨[.fz (rowsD hp), u1, u2, u3], []⟩ = .ok (.fz (.int (cnt : Nat))) ⟨[.fz (rowsD hp), u1, u2, u3], []⟩ := fun u1 u2 u3 => by
    simp! only [rowsD, hlen]
  let k1 : Nat := if cnt < 3 then 2 else 8
  let k2 : Nat := if cnt = 3 ∨ cnt = 4 then 4 else k1
  let k3 : Nat := if cnt = 5 ∨ cnt = 6 then 6 else k2
  have s1 : evS g (.asg 1 false (.cmeth 0 "single" 4 (.cons (.cst (.str "pond")) (.cons (.cst (.str "a")) (.cons (.cst (.str "zoo")) (.cons (.cst (.str "b")) (.cons (.cst (.str "hill")) (.cons (.cst (.str "c")) (.cons (.cst (.str "d")) (.cons (.cst (.str "attic")) .nil)))))))))) ⟨[.fz (rowsD hp), .emp, .emp, .emp], []⟩ = .ok .nx (st23 hp (PN.take 8)) :=
    asg23 ds (by decide) fun st => by simp! only []; rfl
  have s2 : evS g (.ite (.val (.bi (.cm .lt) (.cons (.bi .len (.cons (.var 0) .nil)) (.cons (.cst (.int 3)) .nil)))) (.cons (.asg 1 false (.cmeth 0 "single" 4 (.cons (.cst (.str "pond")) (.cons (.cst (.str "a")) .nil)))) .nil) .nil) (st23 hp (PN.take 8)) = .ok .nx (st23 hp (PN.take k1)) := by
    refine ite_nx (c := decide (cnt < 3)) ?_ (fun h => cons_nx ?_ nil_nx) fun h => ?_
    · have e : decide (((cnt : Nat) : Int) < 3) = decide (cnt < 3) := by
        rw [decide_eq_decide]; omega
      simp! only [hlen, e]
    · have h : cnt < 3 := of_decide_eq_true h
      have e : k1 = 2 := if_pos h
      rw [e]
      exact asg23 ds (by decide) fun st => by simp! only []; rfl
    · have h : ¬ cnt < 3 := of_decide_eq_false h
      have e : k1 = 8 := if_neg h
      rw [e]
  have s3 : evS g (.ite (.val (.bi (.cm .isin) (.cons (.bi .len (.cons (.var 0) .nil)) (.cons (.tupE (.cons (.cst (.int 3)) (.cons (.cst (.int 4)) .nil))) .nil)))) (.cons (.asg 1 false (.cmeth 0 "single" 4 (.cons (.cst (.str "pond")) (.cons (.cst (.str "a")) (.cons (.cst (.str "zoo")) (.cons (.cst (.str "b")) .nil)))))) .nil) .nil) (st23 hp (PN.take k1)) = .ok .nx (st23 hp (PN.take k2)) := by
    refine ite_nx (c := decide (cnt = 3 ∨ cnt = 4)) ?_ (fun h => cons_nx ?_ nil_nx) fun h => ?_
    · have e : ((3 : Int) == (cnt : Nat) || (4 : Int) == (cnt : Nat)) = decide (cnt = 3 ∨ cnt = 4) := by
        rw [Bool.eq_iff_iff]
        simp
        omega
      simp! only [hlen, l2, any34, e]
    · have h : cnt = 3 ∨ cnt = 4 := of_decide_eq_true h
      have e : k2 = 4 := if_pos h
      rw [e]
      exact asg23 ds (by decide) fun st => by simp! only []; rfl
    · have h : ¬ (cnt = 3 ∨ cnt = 4) := of_decide_eq_false h
      have e : k2 = k1 := if_neg h
      rw [e]
  have s4 : evS g (.ite (.val (.bi (.cm .isin) (.cons (.bi .len (.cons (.var 0) .nil)) (.cons (.tupE (.cons (.cst (.int 5)) (.cons (.cst (.int 6)) .nil))) .nil)))) (.cons (.asg 1 false (.cmeth 0 "single" 4 (.cons (.cst (.str "pond")) (.cons (.cst (.str "a")) (.cons (.cst (.str "zoo")) (.cons (.cst (.str "b")) (.cons (.cst (.str "hill")) (.cons (.cst (.str "c")) .nil)))))))) .nil) .nil) (st23 hp (PN.take k2)) = .ok .nx (st23 hp (PN.take k3)) := by
    refine ite_nx (c := decide (cnt = 5 ∨ cnt = 6)) ?_ (fun h => cons_nx ?_ nil_nx) fun h => ?_
    · have e : ((5 : Int) == (cnt : Nat) || (6 : Int) == (cnt : Nat)) = decide (cnt = 5 ∨ cnt = 6) := by
        rw [Bool.eq_iff_iff]
        simp
        omega
      simp! only [hlen, l2, any34, e]
    · have h : cnt = 5 ∨ cnt = 6 := of_decide_eq_true h
      have e : k3 = 6 := if_pos h
      rw [e]
      exact asg23 ds (by decide) fun st => by simp! only []; rfl
    · have h : ¬ (cnt = 5 ∨ cnt = 6) := of_decide_eq_false h
      have e : k3 = k2 := if_neg h
      rw [e]
  have kc : cnt ≤ k3 ∧ 1 ≤ k3 := by
    show cnt ≤ (if cnt = 5 ∨ cnt = 6 then 6 else if cnt = 3 ∨ cnt = 4 then 4 else if cnt < 3 then 2 else 8) ∧ 1 ≤ (if cnt = 5 ∨ cnt = 6 then 6 else if cnt = 3 ∨ cnt = 4 then 4 else if cnt < 3 then 2 else 8)
    split
    · omega
    · split
      · omega
      · split <;> omega
  generalize k3 = k at s4 kc
  generalize k2 = k2' at s3 s4
  generalize k1 = k1' at s2 s3
  have s5 : evS g (.asg 2 false (.bi .toDic (.cons (.var 0) .nil))) (st23 hp (PN.take k)) = .ok .nx ⟨[.fz (rowsD hp), .fz (hD (one (PN.take k))), .fz (.dic (kvD .int hp)), .emp], []⟩ := by
    refine asg_st (r := .ow (.dic (kvD .int hp)) []) ?_ rfl rfl
    have td := toDic_rows nd
    simp! only [st23, td]
  obtain ⟨hp', u, o', ek, e⟩ := loop23 dh (d0 := rowsD hp) (f := hp) (hok_one kc.2) hs
  have s6 : evS g (.forS (.nm 3) (.val (.prop (.var 1) 0 "names" 6)) b23_0) ⟨[.fz (rowsD hp), .fz (hD (one (PN.take k))), .fz (.dic (kvD .int hp)), .emp], []⟩ = .ok .nx ⟨[.fz (rowsD hp), .fz (hD hp'), .fz (.dic (kvD .int hp)), u], []⟩ := by
    refine for_gen (st' := ⟨[.fz (rowsD hp), .fz (hD (one (PN.take k))), .fz (.dic (kvD .int hp)), .emp], []⟩) ?_ e
    have c6 := c6 (one (PN.take k))
    generalize one (PN.take k) = h at c6
    simp only [hD] at c6
    simp! only [hD, m6, v6, c6]
  have s7 : evB g (.cons (.ret (.var 1)) .nil) ⟨[.fz (rowsD hp), .fz (hD hp'), .fz (.dic (kvD .int hp)), u], []⟩ = .ok (.ret (.fz (hD hp'))) ⟨[.fz (rowsD hp), .fz (hD hp'), .fz (.dic (kvD .int hp)), u], []⟩ := by
    simp! only []
  have sb : evB g b23 ⟨[.fz (rowsD hp), .emp, .emp, .emp], []⟩ = .ok (.ret (.fz (hD hp'))) ⟨[.fz (rowsD hp), .fz (hD hp'), .fz (.dic (kvD .int hp)), u], []⟩ := cons_nx s1 (cons_nx s2 (cons_nx s3 (cons_nx s4 (cons_nx s5 (cons_nx s6 s7)))))
  refine ⟨hp', o', fun w m => ?_, ?_⟩
  · rw [ek, one_keys]
    rw [hk] at m
    exact (List.take_subset_take_left PN kc.1) m
  · show (match evB g b23 ⟨[.fz (rowsD hp), .emp, .emp, .emp], []⟩ with
      | .ok (.ret (.bo _)) _ => FR.bad
      | .ok (.ret r) s => .ok r (maskS c23.md (s.fr.take 1)) s.out
      | .ok .nx s => .ok (.fz .non) (maskS c23.md (s.fr.take 1)) s.out
      | .exc c vs s => .exc c vs (maskS c23.md (s.fr.take 1)) s.out
      | _ => .bad).nox = _
    rw [sb]
    rfl
end MiQ

set_option Elab.async false
set_option linter.all false
set_option maxRecDepth 100000
set_option maxHeartbeats 1000000
/-! k19: a list that is drawn. -/
namespace MiQ
open PySem L2 Mi MiP
variable {wf n : Nat}
theorem nd_len : ∀ {xs ys : List Str}, xs.Nodup → (∀ x ∈ xs, x ∈ ys) → xs.length ≤ ys.length
  | [], _, _, _ => Nat.zero_le _
  | x :: xs, ys, h, s => by
    rw [List.nodup_cons] at h
    have m := s x List.mem_cons_self
    have ih := nd_len (xs := xs) (ys := ys.erase x) h.2 fun y my => (List.mem_erase_of_ne fun e => h.1 (by rw [← e]; exact my)).mpr (s y (List.mem_cons_of_mem _ my))
    rw [List.length_erase_of_mem m] at ih
    have := List.length_pos_of_mem m
    rw [List.length_cons]
    omega
theorem freeOf_none {hp : Fre} {L : List (Option Str)} : freeOf hp (L ++ [none]) = freeOf hp L := by
  unfold freeOf
  refine List.map_congr_left fun p _ => ?_
  rw [List.count_append]
  have : List.count (some p.1) [(none : Option Str)] = 0 := rfl
  rw [this]
  rfl
theorem freeOf_snoc {hp : Fre} {L : List (Option Str)} {w : Str} (nd : (hp.map (·.1)).Nodup) (hw : w ∈ hp.map (·.1)) : freeOf hp (L ++ [some w]) = up (freeOf hp L) w (get (freeOf hp L) w - 1) := by
  rw [get_free hw]
  unfold freeOf up
  rw [List.map_map]
  refine List.map_congr_left fun p m => ?_
  show (p.1, p.2 - ((L ++ [some w]).count (some p.1) : Nat)) = if p.1 = w then (p.1, get hp w - (L.count (some w) : Nat) - 1) else (p.1, p.2 - (L.count (some p.1) : Nat))
  rw [List.count_append]
  by_cases e : p.1 = w
  · subst e
    rw [if_pos rfl, get_mem nd m]
    have : List.count (some p.1) [some p.1] = 1 := by simp
    rw [this]
    congr 1
    omega
  · rw [if_neg e]
    have : List.count (some p.1) [some w] = 0 := by
      rw [List.count_eq_zero]
      simp [e]
    rw [this]
    rfl
theorem freeOf_nil {hp : Fre} : freeOf hp [] = hp := by
  unfold freeOf
  have : (fun p : Str × Int => (p.1, p.2 - ((([] : List (Option Str)).count (some p.1) : Nat) : Int))) = id := by
    funext p
    show (p.1, p.2 - (0 : Int)) = p
    rw [Int.sub_zero]
  rw [this, List.map_id]
theorem lok_snoc {hp : Fre} {pre : Ppl} {L : List (Option Str)} {p : Str × List Str} {o : Option Str} (oh : HOK hp) (l : LOK hp pre L) (hw : ∀ x, o = some x → x ∈ p.2 ∧ x ∈ hp.map (·.1) ∧ 0 < get (freeOf hp L) x) : LOK hp (pre ++ [p]) (L ++ [o]) where
  len := by rw [List.length_append, List.length_append, l.len]; rfl
  mem := fun k z h => by
    rw [List.getElem?_append] at h
    split at h
    · rename_i lt
      obtain ⟨q, h1, h2⟩ := l.mem k z h
      exact ⟨q, by rw [List.getElem?_append_left (by rw [← l.len]; exact lt)]; exact h1, h2⟩
    · rename_i ge
      have ke : k - L.length = 0 := by
        have := (List.getElem?_eq_some_iff.mp h).1
        simp at this
        omega
      rw [ke] at h
      cases h
      have : k = pre.length := by have := l.len; omega
      subst this
      exact ⟨p, by simp, fun x e => (hw x e).1⟩
  cnt := fun q m => by
    have c := l.cnt q m
    rw [List.count_append]
    cases o with
    | none =>
      have : List.count (some q.1) [(none : Option Str)] = 0 := rfl
      rw [this]
      exact c
    | some x =>
      obtain ⟨_, h2, h3⟩ := hw x rfl
      by_cases e : x = q.1
      · subst e
        rw [get_free h2, get_mem oh.nd m] at h3
        have : List.count (some q.1) [some q.1] = 1 := by simp
        rw [this]
        omega
      · have : List.count (some q.1) [some x] = 0 := by
          rw [List.count_eq_zero]
          simp
          exact fun z => e z.symm
        rw [this]
        exact c
abbrev st24 (ns : List Int) (hp : Fre) (ps : Ppl) (a b c : Int) (L : List (Option Str)) (u5 u6 u7 u8 : Slot) : Sta :=
  ⟨[.ow (rwD ns a b c) [], .fz (hD hp), .fz (pplD ps), .ow (.lst (L.map oD)) [], .ow (.dic (kvD .int (freeOf hp L))) [], u5, u6, u7, u8, .emp], []⟩
abbrev some24 (hp : Fre) (L : List (Option Str)) (ws : List Str) : List (Option Str) := none :: (ws.filter fun w => decide (0 < get (freeOf hp L) w)).map some
theorem step24 {g : G} (dr : Dr g) {ns : List Int} {hp : Fre} {ps : Ppl} {a b c : Int} {L : List (Option Str)} {u5 u6 u7 u8 : Slot} {p : Str × List Str} (oh : HOK hp) (ha : 0 ≤ a) (wk : WOK hp p.2) (hL : L.length ≤ 12) : ∃ (o : Option Str) (a' b' c' : Int) (u5' u6' u7' u8' : Slot),
    0 ≤ a' ∧ (∀ x, o = some x → x ∈ p.2 ∧ x ∈ hp.map (·.1) ∧ 0 < get (freeOf hp L) x) ∧
    loopF g (.tn [5, 6]) b24_0 (perD p) (st24 ns hp ps a b c L u5 u6 u7 u8) = .ok .nx (st24 ns hp ps a' b' c' (L ++ [o]) u5' u6' u7' u8') := by
  have wl : p.2.length ≤ 8 := by
    have := nd_len wk.nd wk.ss
    rw [List.length_map] at this
    exact Nat.le_trans this oh.le
  generalize hS : some24 hp L p.2 = S
  have Sl : S.length ≤ 9 := by
    rw [← hS]
    have := List.length_filter_le (fun w => decide (0 < get (freeOf hp L) w)) p.2
    simp only [some24, List.length_cons, List.length_map]
    omega
  have Sp : 1 ≤ S.length := by rw [← hS]; simp [some24]
  obtain ⟨r, a1, b1, c1, r0, r1, ha1, e1⟩ := dr.c ns a b c ((S.map oD).length : Nat) ha (by rw [List.length_map]; omega) (by rw [List.length_map]; omega)
  obtain ⟨k, hk⟩ := Int.eq_ofNat_of_zero_le r0
  subst hk
  have kl : k < S.length := by rw [List.length_map] at r1; omega
  have gk : S[k]? = some S[k] := List.getElem?_eq_getElem kl
  generalize S[k] = o at gk
  have ho : ∀ x, o = some x → x ∈ p.2 ∧ x ∈ hp.map (·.1) ∧ 0 < get (freeOf hp L) x := fun x e => by
    subst e
    have m : some x ∈ S := List.mem_of_getElem? gk
    rw [← hS] at m
    rcases List.mem_cons.mp m with z | z
    · cases z
    · obtain ⟨y, my, ey⟩ := List.mem_map.mp z
      cases ey
      have := List.mem_filter.mp my
      exact ⟨this.1, wk.ss _ this.1, of_decide_eq_true this.2⟩
  refine ⟨o, a1, b1, c1, .fz (.str p.1), .fz (wsD p.2), .fz (.lst (S.map oD)), .fz (oD o), ha1, ho, ?_⟩
  have h0 : loopF g (.tn [5, 6]) b24_0 (perD p) (st24 ns hp ps a b c L u5 u6 u7 u8) = evB g b24_0 (st24 ns hp ps a b c L (.fz (.str p.1)) (.fz (wsD p.2)) u7 u8) := rfl
  rw [h0]
  have s1 : evS g (.asg 7 false (.bi .add (.cons (.lstE (.cons (.cst .non) .nil)) (.cons (.lc (.val (.var 6)) (.nm 9) (.val (.bi (.cm .gt) (.cons (.bi .idx (.cons (.bor 4) (.cons (.var 9) .nil))) (.cons (.cst (.int 0)) .nil)))) (.var 9) [9]) .nil)))) (st24 ns hp ps a b c L (.fz (.str p.1)) (.fz (wsD p.2)) u7 u8) = .ok .nx (st24 ns hp ps a b c L (.fz (.str p.1)) (.fz (wsD p.2)) (.fz (.lst (S.map oD))) u8) := by
    refine asg_st (r := .ow (.lst (S.map oD)) []) ?_ rfl rfl
    have lcz : evE g (.lc (.val (.var 6)) (.nm 9) (.val (.bi (.cm .gt) (.cons (.bi .idx (.cons (.bor 4) (.cons (.var 9) .nil))) (.cons (.cst (.int 0)) .nil)))) (.var 9) [9]) (st24 ns hp ps a b c L (.fz (.str p.1)) (.fz (wsD p.2)) u7 u8) = .ok (.ow (.lst ((p.2.filter fun w => decide (0 < get (freeOf hp L) w)).map D.str)) []) (st24 ns hp ps a b c L (.fz (.str p.1)) (.fz (wsD p.2)) u7 u8) := by
      simp! only [st24]
      rw [lcL_map D.str (fun w => if 0 < get (freeOf hp L) w then some (D.str w) else none) _ p.2 (fun w m => by
        have mk : w ∈ (freeOf hp L).map (·.1) := by rw [freeOf_keys]; exact wk.ss w m
        obtain ⟨v, ev, _⟩ := lk_some mk
        have eg : get (freeOf hp L) w = v := by unfold get; rw [ev]; rfl
        rw [eg]
        by_cases pos : 0 < v
        · simp! only [lcF, dget_kv, ev, decide_eq_true pos, pos]
        · simp! only [lcF, dget_kv, ev, decide_eq_false pos, pos]) (Nat.le_trans wl l8)]
      have fe : (p.2.filterMap fun w => if 0 < get (freeOf hp L) w then some (D.str w) else none) = (p.2.filter fun w => decide (0 < get (freeOf hp L) w)).map D.str := by
        generalize p.2 = ws
        induction ws with
        | nil => rfl
        | cons w ws ih =>
          rw [List.filterMap_cons, List.filter_cons]
          by_cases pos : 0 < get (freeOf hp L) w
          · simp [pos, ih]
          · simp [pos, ih]
      rw [fe]
      rfl
    have sm : S.map oD = [D.non] ++ (p.2.filter fun w => decide (0 < get (freeOf hp L) w)).map D.str := by
      rw [← hS]
      show oD none :: ((p.2.filter fun w => decide (0 < get (freeOf hp L) w)).map some).map oD = _
      rw [List.map_map]
      rfl
    have ln : [D.non].length + ((p.2.filter fun w => decide (0 < get (freeOf hp L) w)).map D.str).length ≤ LIM := by
      have := congrArg List.length sm
      rw [List.length_append] at this
      rw [← this, List.length_map]
      exact Nat.le_trans Sl (by decide)
    generalize (p.2.filter fun w => decide (0 < get (freeOf hp L) w)).map D.str = X at lcz sm ln
    rw [sm]
    have u : evBI .add [.lst [D.non], .lst X] = .ow (.lst ([D.non] ++ X)) := by
      rw [u_addL, if_pos ln]
    have le : evE g (.lstE (.cons (.cst .non) .nil)) (st24 ns hp ps a b c L (.fz (.str p.1)) (.fz (wsD p.2)) u7 u8) = .ok (.ow (.lst [.non]) []) (st24 ns hp ps a b c L (.fz (.str p.1)) (.fz (wsD p.2)) u7 u8) := by
      simp! only [l1]
    rw [evE_bi, bindq]
    unfold evA
    rw [bindq, le]
    dsimp only
    unfold evA
    rw [bindq, bindq, lcz]
    dsimp only
    unfold evA
    rw [bindq, pureq]
    dsimp only
    rw [pureq]
    dsimp only
    rw [pureq]
    dsimp only
    rw [bindq, readsq]
    simp! only [u]
  have s2 : evS g (.asg 8 false (.bi .idx (.cons (.var 7) (.cons (.call 19 (.cons (.bor 0) (.cons (.bi .len (.cons (.var 7) .nil)) .nil))) .nil)))) (st24 ns hp ps a b c L (.fz (.str p.1)) (.fz (wsD p.2)) (.fz (.lst (S.map oD))) u8) = .ok .nx (st24 ns hp ps a1 b1 c1 L (.fz (.str p.1)) (.fz (wsD p.2)) (.fz (.lst (S.map oD))) (.fz (oD o))) := by
    have ak : atI (S.map oD) (k : Int) = some (oD o) := Mi.atI_nat (by rw [List.getElem?_map, gk]; rfl)
    generalize S.map oD = X at e1 ak
    have hc := callb_gen (g := g) (e := .bi .len (.cons (.var 7) .nil)) (rest := [.fz (hD hp), .fz (pplD ps), .ow (.lst (L.map oD)) [], .ow (.dic (kvD .int (freeOf hp L))) [], .fz (.str p.1), .fz (wsD p.2), .fz (.lst X), u8, .emp]) (out := []) dr.m dr.v (by simp! only []) e1
    refine asg_gen (r := .fz (oD o)) (st' := st24 ns hp ps a1 b1 c1 L (.fz (.str p.1)) (.fz (wsD p.2)) (.fz (.lst X)) u8) ?_ rfl rfl
    dsimp! only [st24, hc, ak]
  have s3 : evS g (.app 3 (.var 8)) (st24 ns hp ps a1 b1 c1 L (.fz (.str p.1)) (.fz (wsD p.2)) (.fz (.lst (S.map oD))) (.fz (oD o))) = .ok .nx ⟨[.ow (rwD ns a1 b1 c1) [], .fz (hD hp), .fz (pplD ps), .ow (.lst ((L ++ [o]).map oD)) [], .ow (.dic (kvD .int (freeOf hp L))) [], .fz (.str p.1), .fz (wsD p.2), .fz (.lst (S.map oD)), .fz (oD o), .emp], []⟩ := by
    have ll : (L.map oD).length < LIM := by rw [List.length_map]; unfold LIM; omega
    have h3 : appI (oD o) (.lst (L.map oD)) = some (.lst ((L ++ [o]).map oD)) := by
      rw [appI_ok ll, List.map_append]
      rfl
    simp! only [st24, h3]
  have s4 : evS g (.ite (.val (.bi (.cm .notN) (.cons (.var 8) (.cons (.cst .non) .nil)))) (.cons (.setI 4 (.var 8) (.bi .sub (.cons (.bi .idx (.cons (.bor 4) (.cons (.var 8) .nil))) (.cons (.cst (.int 1)) .nil)))) .nil) .nil) ⟨[.ow (rwD ns a1 b1 c1) [], .fz (hD hp), .fz (pplD ps), .ow (.lst ((L ++ [o]).map oD)) [], .ow (.dic (kvD .int (freeOf hp L))) [], .fz (.str p.1), .fz (wsD p.2), .fz (.lst (S.map oD)), .fz (oD o), .emp], []⟩ =
      .ok .nx (st24 ns hp ps a1 b1 c1 (L ++ [o]) (.fz (.str p.1)) (.fz (wsD p.2)) (.fz (.lst (S.map oD))) (.fz (oD o))) := by
    cases o with
    | none =>
      rw [show st24 ns hp ps a1 b1 c1 (L ++ [none]) (.fz (.str p.1)) (.fz (wsD p.2)) (.fz (.lst (S.map oD))) (.fz (oD none)) = ⟨[.ow (rwD ns a1 b1 c1) [], .fz (hD hp), .fz (pplD ps), .ow (.lst ((L ++ [none]).map oD)) [], .ow (.dic (kvD .int (freeOf hp (L ++ [none])))) [], .fz (.str p.1), .fz (wsD p.2), .fz (.lst (S.map oD)), .fz (oD none), .emp], []⟩ from rfl]
      rw [freeOf_none]
      simp! only [oD]
    | some x =>
      obtain ⟨_, h2, h3⟩ := ho x rfl
      have mk : x ∈ (freeOf hp L).map (·.1) := by rw [freeOf_keys]; exact h2
      obtain ⟨v, ev, _⟩ := lk_some mk
      have eg : get (freeOf hp L) x = v := by unfold get; rw [ev]; rfl
      rw [show st24 ns hp ps a1 b1 c1 (L ++ [some x]) (.fz (.str p.1)) (.fz (wsD p.2)) (.fz (.lst (S.map oD))) (.fz (oD (some x))) = ⟨[.ow (rwD ns a1 b1 c1) [], .fz (hD hp), .fz (pplD ps), .ow (.lst ((L ++ [some x]).map oD)) [], .ow (.dic (kvD .int (freeOf hp (L ++ [some x])))) [], .fz (.str p.1), .fz (wsD p.2), .fz (.lst (S.map oD)), .fz (oD (some x)), .emp], []⟩ from rfl]
      rw [freeOf_snoc oh.nd h2, eg]
      have ll : (kvD D.int (freeOf hp L)).length < LIM := by
        rw [kv_len]
        unfold freeOf
        rw [List.length_map]
        exact ll_ok oh.le
      generalize freeOf hp L = fr at ev ll
      have du := dput_old (enc := D.int) (f := fr) (x := x) (v := v - 1) (by rw [ev]; rfl)
      simp! only [oD, dget_kv, ev, ll, du]
  exact cons_nx s1 (cons_nx s2 (cons_nx s3 (cons_nx s4 nil_nx)))
theorem q24 {ns : List Int} {a b c : Int} {hp : Fre} {ps : Ppl} (ha : 0 ≤ a) (oh : HOK hp) (pk : POK hp ps) : ∃ (L : List (Option Str)) (a' b' c' : Int), 0 ≤ a' ∧ LOK hp ps L ∧
    run0 text wf (n + 2) 24 [.ow (rwD ns a b c) [], .fz (hD hp), .fz (pplD ps)] = .ok (.ow (.lst (L.map oD)) []) [.ow (rwD ns a' b' c') [], .emp, .emp] [] := by
  rw [rq (F := c24) rfl]
  have dr := dr_of (wf := wf) (n := n)
  have e5 : (⟨run0 text wf (n + 1), mdOf text, vaOf text, wf⟩ : G).call 5 [.fz (hD hp)] = .ok (.fz (rowsD hp)) [.emp] [] := q5 (wf := wf) (n := n)
  have m5 : (⟨run0 text wf (n + 1), mdOf text, vaOf text, wf⟩ : G).md 5 = [false] := rfl
  have v5 : (⟨run0 text wf (n + 1), mdOf text, vaOf text, wf⟩ : G).va 5 = false := rfl
  generalize (⟨run0 text wf (n + 1), mdOf text, vaOf text, wf⟩ : G) = g at dr e5 m5 v5
  let I : Ppl → Ppl → Sta → Prop := fun pre post s => pre ++ post = ps ∧ ∃ (L : List (Option Str)) (a b c : Int) (u5 u6 u7 u8 : Slot), LOK hp pre L ∧ 0 ≤ a ∧ s = st24 ns hp ps a b c L u5 u6 u7 u8
  obtain ⟨s', e, _, L, a2, b2, c2, u5, u6, u7, u8, lk, ha2, rfl⟩ := forL_thru (f := loopF g (.tn [5, 6]) b24_0) perD I (fun pre p post s ⟨hs, L, a, b, c, u5, u6, u7, u8, lk, ha, e⟩ => by
    subst e
    have mem : p ∈ ps := by rw [← hs]; simp
    have pl : L.length ≤ 12 := by
      have := pk.le
      rw [← hs, List.length_append] at this
      rw [lk.len]
      omega
    obtain ⟨o, a', b', c', u5', u6', u7', u8', ha', ho, es⟩ := step24 dr (ns := ns) (ps := ps) (a := a) (b := b) (c := c) (L := L) (u5 := u5) (u6 := u6) (u7 := u7) (u8 := u8) (p := p) oh ha (pk.ws p mem) pl
    exact ⟨_, es, by rw [List.append_assoc]; exact hs, L ++ [o], a', b', c', _, _, _, _, lok_snoc oh lk ho, ha', rfl⟩) ps [] (st24 ns hp ps a b c [] .emp .emp .emp .emp) ⟨rfl, [], a, b, c, _, _, _, _, ⟨rfl, fun k z h => by simp at h, fun p m => (oh.st p m).1⟩, ha, rfl⟩
  refine ⟨L, a2, b2, c2, ha2, lk, ?_⟩
  have s1 : evS g (.par2 3 true (.lstE .nil) 4 true (.bi .toDic (.cons (.prop (.var 1) 0 "places" 5) .nil))) ⟨[.ow (rwD ns a b c) [], .fz (hD hp), .fz (pplD ps), .emp, .emp, .emp, .emp, .emp, .emp, .emp], []⟩ = .ok .nx (st24 ns hp ps a b c [] .emp .emp .emp .emp) := by
    have td := toDic_rows oh.nd
    rw [show st24 ns hp ps a b c [] .emp .emp .emp .emp = ⟨[.ow (rwD ns a b c) [], .fz (hD hp), .fz (pplD ps), .ow (.lst []) [], .ow (.dic (kvD .int (freeOf hp []))) [], .emp, .emp, .emp, .emp, .emp], []⟩ from rfl]
    rw [freeOf_nil]
    simp only [hD] at e5
    simp! only [hD, m5, v5, e5, td]
  have s2 : evS g (.forS (.tn [5, 6]) (.val (.var 2)) b24_0) (st24 ns hp ps a b c [] .emp .emp .emp .emp) = .ok .nx (st24 ns hp ps a2 b2 c2 L u5 u6 u7 u8) := by
    refine for_gen (st' := st24 ns hp ps a b c [] .emp .emp .emp .emp) ?_ e
    simp! only [st24]
  have s3 : evB g (.cons (.ret (.mv 3)) .nil) (st24 ns hp ps a2 b2 c2 L u5 u6 u7 u8) = .ok (.ret (.ow (.lst (L.map oD)) [])) ⟨[.ow (rwD ns a2 b2 c2) [], .fz (hD hp), .fz (pplD ps), .emp, .ow (.dic (kvD .int (freeOf hp L))) [], u5, u6, u7, u8, .emp], []⟩ := by
    simp! only [st24]
  have sb : evB g b24 ⟨[.ow (rwD ns a b c) [], .fz (hD hp), .fz (pplD ps), .emp, .emp, .emp, .emp, .emp, .emp, .emp], []⟩ = .ok (.ret (.ow (.lst (L.map oD)) [])) ⟨[.ow (rwD ns a2 b2 c2) [], .fz (hD hp), .fz (pplD ps), .emp, .ow (.dic (kvD .int (freeOf hp L))) [], u5, u6, u7, u8, .emp], []⟩ := cons_nx s1 (cons_nx s2 s3)
  show (match evB g b24 ⟨[.ow (rwD ns a b c) [], .fz (hD hp), .fz (pplD ps), .emp, .emp, .emp, .emp, .emp, .emp, .emp], []⟩ with
    | .ok (.ret (.bo _)) _ => FR.bad
    | .ok (.ret r) s => .ok r (maskS c24.md (s.fr.take 3)) s.out
    | .ok .nx s => .ok (.fz .non) (maskS c24.md (s.fr.take 3)) s.out
    | .exc c vs s => .exc c vs (maskS c24.md (s.fr.take 3)) s.out
    | _ => .bad).nox = _
  rw [sb]
  rfl
end MiQ

set_option Elab.async false
set_option linter.all false
set_option maxRecDepth 100000
set_option maxHeartbeats 1000000
/-! k19: what the law takes for a fault. -/
namespace MiQ
open PySem L2 Mi MiP
variable {wf n : Nat}
theorem idx_mid {x : Str} {post : List Str} : ∀ {pre : List Str}, (pre ++ x :: post).Nodup → (pre ++ x :: post).idxOf x = pre.length
  | [], _ => List.idxOf_cons_self
  | y :: pre, h => by
    have h : (y :: (pre ++ x :: post)).Nodup := h
    rw [List.nodup_cons] at h
    have ne : y ≠ x := fun e => h.1 (by rw [e]; simp)
    show (y :: (pre ++ x :: post)).idxOf x = _
    rw [idx_ne ne, idx_mid h.2]
    rfl
theorem seats_gt {g : G} {hp : Fre} {L : List (Option Str)} {fr : List Slot} {i : Nat} {w : Str} {v : Int} (e5 : g.call 5 [.fz (hD hp)] = .ok (.fz (rowsD hp)) [.emp] []) (m5 : g.md 5 = [false]) (v5 : g.va 5 = false) (o : HOK hp)
    (h0 : fr[0]? = some (.fz (hD hp))) (h2 : fr[2]? = some (.ow (.lst (L.map oD)) [])) (hi : fr[i]? = some (.fz (.str w))) (ev : lk hp w = some v) :
    evE g (.bi (.cm .gt) (.cons (.bi .idx (.cons (.bi .toDic (.cons (.prop (.var 0) 0 "places" 5) .nil)) (.cons (.var i) .nil))) (.cons (.bm .count (.bor 2) (.cons (.var i) .nil)) .nil))) ⟨fr, []⟩ = .ok (.fz (.bl (decide (((L.count (some w) : Nat) : Int) < v)))) ⟨fr, []⟩ := by
  have td := toDic_rows o.nd
  have ec := u_countL (countEq_oD (x := w) (L := L))
  simp only [hD] at e5 h0
  simp! only [h0, h2, hi, e5, m5, v5, td, dget_kv, ev, ec]
theorem rng2_gen {g : G} {a b : CE} {st : Sta} {i j : Int} (ha : evE g a st = .ok (.fz (.int i)) st) (hb : evE g b st = .ok (.fz (.int j)) st) (h1 : ranOk i = true) (h2 : ranOk j = true) : evI g (.rng2 a b) st = .ok (rngD i j) st := by
  conv => lhs; unfold evI
  rw [bindq, ha]
  dsimp only
  rw [bindq, keepq]
  dsimp only [keepR]
  rw [bindq, hb]
  dsimp only
  rw [bindq, keepq]
  dsimp only [keepR]
  rw [if_pos ⟨h1, h2⟩]
  rfl
theorem blk_gen {α : Type} {own : List Nat} {m : M α} {st : Sta} {a : α} (h1 : own.all (fun i => notOw st.fr[i]?) = true) (h2 : wipeS own st.fr = st.fr) (h3 : own.foldr (fun i f => f.set i (st.fr.getD i .emp)) st.fr = st.fr) (hm : m st = .ok a st) : blk own m st = .ok a st := by
  unfold blk
  rw [if_pos h1, h2, hm]
  dsimp only
  rw [h3]
theorem lc_gen {g : G} {src : CI} {tg : Tg} {t : CT} {e : CE} {own : List Nat} {st : Sta} {ds xs : List D} (hs : evI g src st = .ok ds st) (hb : blk own (lcL (lcF g tg t e own) ds []) st = .ok xs st) : evE g (.lc src tg t e own) st = .ok (.ow (.lst xs) []) st := by
  rw [evE_lc, bindq, hs]
  dsimp only
  rw [bindq, hb]
  rfl
theorem later_rng {w : Str} : ∀ (post : Ppl) (Lpost : List (Option Str)), Lpost.length = post.length → (List.range post.length).filterMap (fun i => if Lpost[i]? = some (some w) then (post[i]?).map (fun p => D.str p.1) else none) = (laters post Lpost w).map D.str
  | [], _, _ => rfl
  | p :: post, [], h => by cases h
  | p :: post, c :: Lpost, h => by
    have ih := later_rng (w := w) post Lpost (by simpa using h)
    rw [laters_cons, List.length_cons, List.range_succ_eq_map, List.filterMap_cons, List.filterMap_map]
    have fe : ((fun i => if (c :: Lpost)[i]? = some (some w) then ((p :: post)[i]?).map (fun p => D.str p.1) else none) ∘ Nat.succ) = fun i => if Lpost[i]? = some (some w) then (post[i]?).map (fun p => D.str p.1) else none := by
      funext i
      rfl
    rw [fe, ih]
    by_cases e : c = some w
    · subst e
      simp
    · rw [if_neg e]
      have : ¬ ((c :: Lpost)[0]? = some (some w)) := fun z => e (Option.some.inj z)
      rw [if_neg this]
abbrev st25 (hp : Fre) (ps : Ppl) (L : List (Option Str)) (s3 s4 s5 s6 s7 s8 s9 s10 s11 s12 s13 s14 : Slot) : Sta := ⟨[.fz (hD hp), .fz (pplD ps), .ow (.lst (L.map oD)) [], s3, s4, s5, s6, s7, s8, s9, s10, s11, s12, s13, s14, .emp, .emp], []⟩
theorem q25 {hp : Fre} {ps : Ppl} {L : List (Option Str)} {f : Str × Str × Option Str} (o : HOK hp) (k : POK hp ps) (l : LOK hp ps L) (hf : fault (freeOf hp L) ps L = some f) :
    run0 text wf (n + 2) 25 [.fz (hD hp), .fz (pplD ps), .ow (.lst (L.map oD)) [], .fz (faD f)] = .ok (.fz (.bl true)) [.emp, .emp, .ow (.lst (L.map oD)) [], .emp] [] := by
  rw [rq (F := c25) rfl]
  have e5 : (⟨run0 text wf (n + 1), mdOf text, vaOf text, wf⟩ : G).call 5 [.fz (hD hp)] = .ok (.fz (rowsD hp)) [.emp] [] := q5 (wf := wf) (n := n)
  have m5 : (⟨run0 text wf (n + 1), mdOf text, vaOf text, wf⟩ : G).md 5 = [false] := rfl
  have v5 : (⟨run0 text wf (n + 1), mdOf text, vaOf text, wf⟩ : G).va 5 = false := rfl
  generalize (⟨run0 text wf (n + 1), mdOf text, vaOf text, wf⟩ : G) = g at e5 m5 v5
  obtain ⟨pre, p, post, Lpre, c, Lpost, h1, h2, h3, h4⟩ := fault_some hf
  obtain ⟨a, w, b, hb, ha, hw⟩ := faultIn_some h4
  -- what is known of the person, the place
  have pm : p ∈ ps := by rw [h1]; simp
  have gp : ps[pre.length]? = some p := mid_get h1.symm
  have gc : L[pre.length]? = some c := by rw [← h3]; exact mid_get h2.symm
  have hc : ∀ x, c = some x → x ∈ p.2 := fun x e => by
    obtain ⟨p', g1, g2⟩ := l.mem _ _ gc
    rw [gp] at g1
    cases g1
    exact g2 x e
  have bs : ∀ v ∈ better p.2 c, v ∈ hp.map (·.1) := fun v m => (k.ws p pm).ss v (better_sub m)
  have wb : w ∈ better p.2 c := by rw [hb]; simp
  obtain ⟨sw, esw, _⟩ := lk_some (bs w wb)
  have gw : get (freeOf hp L) w = sw - (L.count (some w) : Nat) := by rw [get_free (bs w wb)]; unfold get; rw [esw]; rfl
  have lps : ps.length ≤ 12 := k.le
  have lpre : pre.length + 1 + post.length = ps.length := by rw [h1, List.length_append, List.length_cons]; omega
  have lL : Lpost.length = post.length := by
    have := l.len
    rw [h1, h2, List.length_append, List.length_append, List.length_cons, List.length_cons] at this
    omega
  have f1 : f.1 = p.1 ∧ f.2.1 = w ∧ ((0 < get (freeOf hp L) w ∧ f.2.2 = none) ∨ (¬ 0 < get (freeOf hp L) w ∧ ∃ y ys, laters post Lpost w = y :: ys ∧ f.2.2 = some y)) := by
    rcases hw with ⟨q1, q2⟩ | ⟨q1, y, ys, q2, q3⟩
    · rw [q2]; exact ⟨rfl, rfl, .inl ⟨q1, rfl⟩⟩
    · rw [q3]; exact ⟨rfl, rfl, .inr ⟨q1, y, ys, q2, rfl⟩⟩
  obtain ⟨fn, fp, fh⟩ := f
  obtain ⟨e1, e2, hw2⟩ := f1
  change fn = p.1 at e1
  change fp = w at e2
  subst e2
  subst e1
  have hw2 : (0 < get (freeOf hp L) fp ∧ fh = none) ∨ (¬ 0 < get (freeOf hp L) fp ∧ ∃ y ys, laters post Lpost fp = y :: ys ∧ fh = some y) := hw2
  clear hw h4
  let F : Slot := .fz (faD (p.1, fp, fh))
  let NS : Slot := .fz (.lst ((ps.map (·.1)).map D.str))
  have s1 : evS g (.asgT (.tn [4, 5, 6]) (.var 3)) (st25 hp ps L F .emp .emp .emp .emp .emp .emp .emp .emp .emp .emp .emp) = .ok .nx (st25 hp ps L F (.fz (.str p.1)) (.fz (.str fp)) (.fz (oD fh)) .emp .emp .emp .emp .emp .emp .emp .emp) := by
    simp! only [st25, F, faD]
  have s2 : evS g (.asg 7 false (.lc (.val (.var 1)) (.nm 15) .tt (.bi .idx (.cons (.var 15) (.cons (.cst (.int 0)) .nil))) [15])) (st25 hp ps L F (.fz (.str p.1)) (.fz (.str fp)) (.fz (oD fh)) .emp .emp .emp .emp .emp .emp .emp .emp) = .ok .nx (st25 hp ps L F (.fz (.str p.1)) (.fz (.str fp)) (.fz (oD fh)) NS .emp .emp .emp .emp .emp .emp .emp) := by
    refine asg_st (r := .ow (.lst ((ps.map (·.1)).map D.str)) []) ?_ rfl rfl
    simp! only [st25]
    rw [lcL_all perD (fun p => D.str p.1) _ ps (fun p _ => by
      have a0 : atI [D.str p.1, wsD p.2] 0 = some (.str p.1) := rfl
      simp! only [lcF, perD, a0]) (Nat.le_trans lps l12)]
    have er : ps.map (fun p => D.str p.1) = (ps.map (·.1)).map D.str := by rw [List.map_map]; rfl
    rw [er]
    rfl
  have ix : (ps.map (·.1)).idxOf p.1 = pre.length := by
    have nd := k.nd
    rw [h1, List.map_append, List.map_cons] at nd ⊢
    rw [idx_mid nd, List.length_map]
  have s3 : evS g (.asg 8 false (.bm .index (.var 7) (.cons (.var 4) .nil))) (st25 hp ps L F (.fz (.str p.1)) (.fz (.str fp)) (.fz (oD fh)) NS .emp .emp .emp .emp .emp .emp .emp) = .ok .nx (st25 hp ps L F (.fz (.str p.1)) (.fz (.str fp)) (.fz (oD fh)) NS (.fz (.int (pre.length : Nat))) .emp .emp .emp .emp .emp .emp) := by
    refine asg_st (r := .fz (.int (pre.length : Nat))) ?_ rfl rfl
    have e := u_indexL (findEq_str (x := p.1) (ws := ps.map (·.1)) (List.mem_map.mpr ⟨p, pm, rfl⟩))
    rw [ix] at e
    simp! only [st25, NS, e]
  have s4 : evS g (.par2 9 false (.bi .idx (.cons (.bi .idx (.cons (.var 1) (.cons (.var 8) .nil))) (.cons (.cst (.int 1)) .nil))) 10 false (.bi .idx (.cons (.bor 2) (.cons (.var 8) .nil)))) (st25 hp ps L F (.fz (.str p.1)) (.fz (.str fp)) (.fz (oD fh)) NS (.fz (.int (pre.length : Nat))) .emp .emp .emp .emp .emp .emp) =
      .ok .nx (st25 hp ps L F (.fz (.str p.1)) (.fz (.str fp)) (.fz (oD fh)) NS (.fz (.int (pre.length : Nat))) (.fz (wsD p.2)) (.fz (oD c)) .emp .emp .emp .emp) := by
    have a1 : atI (ps.map perD) (pre.length : Nat) = some (perD p) := Mi.atI_nat (by rw [List.getElem?_map, gp]; rfl)
    have a2 : atI [D.str p.1, wsD p.2] 1 = some (wsD p.2) := rfl
    have a3 : atI (L.map oD) (pre.length : Nat) = some (oD c) := Mi.atI_nat (by rw [List.getElem?_map, gc]; rfl)
    simp! only [st25, a1, perD, a2, a3]
  have s5 : evS g (.asg 11 false (.ite (.val (.bi (.cm .isN) (.cons (.var 10) (.cons (.cst .non) .nil)))) (.var 9) (.bi (.slc false true) (.cons (.var 9) (.cons (.bm .index (.var 9) (.cons (.var 10) .nil)) .nil))))) (st25 hp ps L F (.fz (.str p.1)) (.fz (.str fp)) (.fz (oD fh)) NS (.fz (.int (pre.length : Nat))) (.fz (wsD p.2)) (.fz (oD c)) .emp .emp .emp .emp) =
      .ok .nx (st25 hp ps L F (.fz (.str p.1)) (.fz (.str fp)) (.fz (oD fh)) NS (.fz (.int (pre.length : Nat))) (.fz (wsD p.2)) (.fz (oD c)) (.fz (wsD (better p.2 c))) .emp .emp .emp) := by
    refine asg_st (r := .fz (wsD (better p.2 c))) ?_ rfl rfl
    cases c with
    | none =>
      rw [better_none]
      simp! only [st25, oD]
    | some x =>
      have e := u_indexT (findEq_str (hc x rfl))
      have tk : List.take (p.2.idxOf x) (p.2.map D.str) = (better p.2 (some x)).map D.str := (List.map_take ..).symm
      simp! only [st25, oD, e, cut_to, tk]
  let KK : Slot := .fz (.int (pre.length : Nat))
  let LA : List D := (laters post Lpost fp).map D.str
  have s6 : evS g (.asg 12 false (.lc (.rng2 (.bi .add (.cons (.var 8) (.cons (.cst (.int 1)) .nil))) (.bi .len (.cons (.var 7) .nil))) (.nm 16) (.val (.bi (.cm .eq) (.cons (.bi .idx (.cons (.bor 2) (.cons (.var 16) .nil))) (.cons (.var 5) .nil)))) (.bi .idx (.cons (.var 7) (.cons (.var 16) .nil))) [16])) (st25 hp ps L F (.fz (.str p.1)) (.fz (.str fp)) (.fz (oD fh)) NS KK (.fz (wsD p.2)) (.fz (oD c)) (.fz (wsD (better p.2 c))) .emp .emp .emp) =
      .ok .nx (st25 hp ps L F (.fz (.str p.1)) (.fz (.str fp)) (.fz (oD fh)) NS KK (.fz (wsD p.2)) (.fz (oD c)) (.fz (wsD (better p.2 c))) (.fz (.lst LA)) .emp .emp) := by
    refine asg_st (r := .ow (.lst LA) []) ?_ rfl rfl
    have hs : evI g (.rng2 (.bi .add (.cons (.var 8) (.cons (.cst (.int 1)) .nil))) (.bi .len (.cons (.var 7) .nil))) (st25 hp ps L F (.fz (.str p.1)) (.fz (.str fp)) (.fz (oD fh)) NS KK (.fz (wsD p.2)) (.fz (oD c)) (.fz (wsD (better p.2 c))) .emp .emp .emp) =
        .ok ((List.range post.length).map fun (i : Nat) => D.int ((pre.length : Nat) + 1 + (i : Int))) (st25 hp ps L F (.fz (.str p.1)) (.fz (.str fp)) (.fz (oD fh)) NS KK (.fz (wsD p.2)) (.fz (oD c)) (.fz (wsD (better p.2 c))) .emp .emp .emp) := by
      have er : rngD ((pre.length : Nat) + 1) ((((ps.map (·.1)).map D.str).length : Nat) : Int) = (List.range post.length).map fun (i : Nat) => D.int ((pre.length : Nat) + 1 + (i : Int)) := by
        unfold rngD
        rw [List.length_map, List.length_map]
        have : ((ps.length : Int) - ((pre.length : Nat) + 1)).toNat = post.length := by omega
        rw [this]
      rw [← er]
      refine rng2_gen ?_ ?_ (rk_ok (by omega) (by omega)) (rk_ok (by omega) (by rw [List.length_map, List.length_map]; omega))
      · simp! only [st25, KK]
      · simp! only [st25, NS]
    refine lc_gen hs (blk_gen rfl rfl rfl ?_)
    rw [lcL_map (fun (i : Nat) => D.int ((pre.length : Nat) + 1 + (i : Int))) (fun i => if Lpost[i]? = some (some fp) then (post[i]?).map (fun p => D.str p.1) else none) _ (List.range post.length) (fun i mi' => by
      have ilt : i < post.length := List.mem_range.mp mi'
      have gq : post[i]? = some post[i] := List.getElem?_eq_getElem ilt
      have gd : Lpost[i]? = some (Lpost[i]'(by omega)) := List.getElem?_eq_getElem (by omega)
      generalize post[i] = q at gq
      generalize Lpost[i]'(by omega) = d at gd
      have dp : ps[pre.length + 1 + i]? = some q := by
        rw [h1, List.getElem?_append_right (by omega), show pre.length + 1 + i - pre.length = i + 1 by omega]
        exact gq
      have dL : L[pre.length + 1 + i]? = some d := by
        rw [h2, List.getElem?_append_right (by omega), show pre.length + 1 + i - Lpre.length = i + 1 by omega]
        exact gd
      have a1 : atI (L.map oD) ((pre.length : Nat) + 1 + (i : Int)) = some (oD d) := by
        rw [show (((pre.length : Nat) : Int) + 1 + (i : Int)) = ((pre.length + 1 + i : Nat) : Int) by omega]
        exact Mi.atI_nat (by rw [List.getElem?_map, dL]; rfl)
      have a2 : atI ((ps.map (·.1)).map D.str) ((pre.length : Nat) + 1 + (i : Int)) = some (.str q.1) := by
        rw [show (((pre.length : Nat) : Int) + 1 + (i : Int)) = ((pre.length + 1 + i : Nat) : Int) by omega]
        exact Mi.atI_nat (by rw [List.getElem?_map, List.getElem?_map, dp]; rfl)
      rw [gq, gd]
      by_cases e : d = some fp
      · have eb : (d == some fp) = true := by rw [e]; exact beq_self_eq_true _
        simp! only [lcF, a1, eqD_oD, eb, e, NS, a2]
      · have eb : (d == some fp) = false := beq_eq_false_iff_ne.mpr e
        have ne : ¬ (some d = some (some fp)) := fun z => e (Option.some.inj z)
        simp! only [lcF, a1, eqD_oD, eb, ne, NS, a2]) (by rw [List.length_range]; exact Nat.le_trans (by omega) l12)]
    rw [later_rng post Lpost lL]
  let SB : Slot := .fz (wsD (better p.2 c))
  let FB : Bool := decide (((L.count (some fp) : Nat) : Int) < sw)
  have s7 : evS g (.asg 13 false (.bi (.cm .gt) (.cons (.bi .idx (.cons (.bi .toDic (.cons (.prop (.var 0) 0 "places" 5) .nil)) (.cons (.var 5) .nil))) (.cons (.bm .count (.bor 2) (.cons (.var 5) .nil)) .nil)))) (st25 hp ps L F (.fz (.str p.1)) (.fz (.str fp)) (.fz (oD fh)) NS KK (.fz (wsD p.2)) (.fz (oD c)) SB (.fz (.lst LA)) .emp .emp) =
      .ok .nx (st25 hp ps L F (.fz (.str p.1)) (.fz (.str fp)) (.fz (oD fh)) NS KK (.fz (wsD p.2)) (.fz (oD c)) SB (.fz (.lst LA)) (.fz (.bl FB)) .emp) :=
    asg_st (seats_gt e5 m5 v5 o rfl rfl rfl esw) rfl rfl
  have dw : decide (fp ∈ better p.2 c) = true := decide_eq_true wb
  have s8 : evS g (.ite (.or (.val (.bi (.cm .notin) (.cons (.var 5) (.cons (.var 11) .nil)))) (.val (.bi (.cm .ne) (.cons (.var 6) (.cons (.ite (.val (.var 13)) (.cst .non) (.bi .idx (.cons (.bi .add (.cons (.var 12) (.cons (.lstE (.cons (.cst .non) .nil)) .nil))) (.cons (.cst (.int 0)) .nil)))) .nil))))) (.cons (.ret (.cst (.bl false))) .nil) .nil) (st25 hp ps L F (.fz (.str p.1)) (.fz (.str fp)) (.fz (oD fh)) NS KK (.fz (wsD p.2)) (.fz (oD c)) SB (.fz (.lst LA)) (.fz (.bl FB)) .emp) =
      .ok .nx (st25 hp ps L F (.fz (.str p.1)) (.fz (.str fp)) (.fz (oD fh)) NS KK (.fz (wsD p.2)) (.fz (oD c)) SB (.fz (.lst LA)) (.fz (.bl FB)) .emp) := by
    refine ite_f ?_ nil_nx
    rcases hw2 with ⟨q1, q2⟩ | ⟨q1, y, ys, q2, q3⟩
    · have fr : FB = true := decide_eq_true (by omega)
      subst q2
      generalize FB = X at fr
      subst fr
      simp! only [st25, SB, anyEq_str, dw, oD]
    · have fr : FB = false := decide_eq_false (by omega)
      subst q3
      generalize FB = X at fr
      subst fr
      have la : LA = D.str y :: ys.map D.str := by show (laters post Lpost fp).map D.str = _; rw [q2]; rfl
      have ll : ys.length + 1 + 1 ≤ LIM := by
        have h1' : (laters post Lpost fp).length ≤ post.length := by
          unfold laters
          refine Nat.le_trans (List.length_filterMap_le _ _) ?_
          rw [List.length_zip]
          omega
        rw [q2, List.length_cons] at h1'
        exact Nat.le_trans (by omega) l12
      have a0 : atI (D.str y :: (ys.map D.str ++ [D.non])) 0 = some (.str y) := Mi.atI_nat (k := 0) rfl
      have u : evBI .add [.lst (D.str y :: ys.map D.str), .lst [D.non]] = .ow (.lst (D.str y :: (ys.map D.str ++ [D.non]))) := by
        rw [u_addL, if_pos (by simpa using ll)]
        rfl
      generalize LA = X at la
      subst la
      have le : ∀ st : Sta, evE g (.lstE (.cons (.cst .non) .nil)) st = .ok (.ow (.lst [.non]) []) st := fun st => by simp! only [l1]
      have ea : evE g (.bi .add (.cons (.var 12) (.cons (.lstE (.cons (.cst .non) .nil)) .nil))) (st25 hp ps L F (.fz (.str p.1)) (.fz (.str fp)) (.fz (oD (some y))) NS KK (.fz (wsD p.2)) (.fz (oD c)) SB (.fz (.lst (D.str y :: ys.map D.str))) (.fz (.bl false)) .emp) = .ok (.ow (.lst (D.str y :: (ys.map D.str ++ [D.non]))) []) (st25 hp ps L F (.fz (.str p.1)) (.fz (.str fp)) (.fz (oD (some y))) NS KK (.fz (wsD p.2)) (.fz (oD c)) SB (.fz (.lst (D.str y :: ys.map D.str))) (.fz (.bl false)) .emp) := by
        rw [evE_bi, bindq]
        have e12 : evE g (.var 12) (st25 hp ps L F (.fz (.str p.1)) (.fz (.str fp)) (.fz (oD (some y))) NS KK (.fz (wsD p.2)) (.fz (oD c)) SB (.fz (.lst (D.str y :: ys.map D.str))) (.fz (.bl false)) .emp) = .ok (.fz (.lst (D.str y :: ys.map D.str))) (st25 hp ps L F (.fz (.str p.1)) (.fz (.str fp)) (.fz (oD (some y))) NS KK (.fz (wsD p.2)) (.fz (oD c)) SB (.fz (.lst (D.str y :: ys.map D.str))) (.fz (.bl false)) .emp) := by simp! only [st25]
        have eA : evA g (.cons (.var 12) (.cons (.lstE (.cons (.cst .non) .nil)) .nil)) (st25 hp ps L F (.fz (.str p.1)) (.fz (.str fp)) (.fz (oD (some y))) NS KK (.fz (wsD p.2)) (.fz (oD c)) SB (.fz (.lst (D.str y :: ys.map D.str))) (.fz (.bl false)) .emp) = .ok [.fz (.lst (D.str y :: ys.map D.str)), .ow (.lst [.non]) []] (st25 hp ps L F (.fz (.str p.1)) (.fz (.str fp)) (.fz (oD (some y))) NS KK (.fz (wsD p.2)) (.fz (oD c)) SB (.fz (.lst (D.str y :: ys.map D.str))) (.fz (.bl false)) .emp) := by
          simp only [evA, bindq, pureq, e12, le]
        rw [eA]
        dsimp only
        rw [bindq, readsq]
        simp only [rdAll, rdR, Option.bind_some, Option.map_some, u, ofBR2]
      have ei : ∀ {e : CE} {st : Sta} {xs : List D} {d : D}, evE g e st = .ok (.ow (.lst xs) []) st → atI xs 0 = some d → evE g (.bi .idx (.cons e (.cons (.cst (.int 0)) .nil))) st = .ok (.fz d) st := fun he h => by
        simp! only [he, h]
      have ef := ei ea a0
      have bb : (y == y) = true := beq_self_eq_true y
      generalize hst : st25 hp ps L F (.fz (.str p.1)) (.fz (.str fp)) (.fz (oD (some y))) NS KK (.fz (wsD p.2)) (.fz (oD c)) SB (.fz (.lst (D.str y :: ys.map D.str))) (.fz (.bl false)) .emp = st at ef
      have t1 : evT g (.val (.bi (.cm .notin) (.cons (.var 5) (.cons (.var 11) .nil)))) st = .ok false st := by
        rw [← hst]
        simp! only [st25, SB, anyEq_str, dw]
      have t6 : evE g (.var 6) st = .ok (.fz (.str y)) st := by
        rw [← hst]
        simp! only [st25, oD]
      have t13 : evT g (.val (.var 13)) st = .ok false st := by
        rw [← hst]
        simp! only [st25]
      rw [evT_or, t1]
      dsimp only
      rw [if_neg (by decide)]
      rw [evT_val]
      generalize hE : (CE.bi .idx (.cons (.bi .add (.cons (.var 12) (.cons (.lstE (.cons (.cst .non) .nil)) .nil))) (.cons (.cst (.int 0)) .nil))) = E at ef ⊢
      have : evE g (.bi (.cm .ne) (.cons (.var 6) (.cons (.ite (.val (.var 13)) (.cst .non) E) .nil))) st = .ok (.fz (.bl false)) st := by
        simp only [evE_bi .., evA, bindq, pureq, t6, evE_ite, t13, ef, if_false, Bool.false_eq_true, readsq, rdAll, rdR, Option.bind_some, Option.map_some, u_cm, v_ne, eqss, bb, Bool.not_true, b_some, ofBR1, reduceIte]
      rw [this]
      rfl
  have ndb : (better p.2 c).Nodup := (k.ws p pm).nd.sublist (List.take_sublist _ _)
  have s9 : ∃ u14, evS g (.forS (.nm 14) (.val (.bi (.slc false true) (.cons (.var 11) (.cons (.bm .index (.var 11) (.cons (.var 5) .nil)) .nil)))) b25_0) (st25 hp ps L F (.fz (.str p.1)) (.fz (.str fp)) (.fz (oD fh)) NS KK (.fz (wsD p.2)) (.fz (oD c)) SB (.fz (.lst LA)) (.fz (.bl FB)) .emp) =
      .ok .nx (st25 hp ps L F (.fz (.str p.1)) (.fz (.str fp)) (.fz (oD fh)) NS KK (.fz (wsD p.2)) (.fz (oD c)) SB (.fz (.lst LA)) (.fz (.bl FB)) u14) := by
    let I : List Str → List Str → Sta → Prop := fun x y s => x ++ y = a ∧ ∃ u14, s = st25 hp ps L F (.fz (.str p.1)) (.fz (.str fp)) (.fz (oD fh)) NS KK (.fz (wsD p.2)) (.fz (oD c)) SB (.fz (.lst LA)) (.fz (.bl FB)) u14
    obtain ⟨s', e, _, u14, rfl⟩ := forL_thru (f := loopF g (.nm 14) b25_0) D.str I (fun x v y s ⟨hs, u14, e⟩ => by
      subst e
      have vm : v ∈ a := by rw [← hs]; simp
      have vb : v ∈ better p.2 c := by rw [hb]; exact List.mem_append_left _ vm
      obtain ⟨sv, esv, _⟩ := lk_some (bs v vb)
      have gv : get (freeOf hp L) v = sv - (L.count (some v) : Nat) := by rw [get_free (bs v vb)]; unfold get; rw [esv]; rfl
      obtain ⟨n1, n2⟩ := ha v vm
      have d1 : decide (((L.count (some v) : Nat) : Int) < sv) = false := decide_eq_false (by omega)
      have d2 : decide (some v ∈ Lpost) = false := decide_eq_false (List.count_eq_zero.mp ((laters_nil lL).mp n2))
      refine ⟨st25 hp ps L F (.fz (.str p.1)) (.fz (.str fp)) (.fz (oD fh)) NS KK (.fz (wsD p.2)) (.fz (oD c)) SB (.fz (.lst LA)) (.fz (.bl FB)) (.fz (.str v)), ?_, by rw [List.append_assoc]; exact hs, _, rfl⟩
      have h0 : loopF g (.nm 14) b25_0 (.str v) (st25 hp ps L F (.fz (.str p.1)) (.fz (.str fp)) (.fz (oD fh)) NS KK (.fz (wsD p.2)) (.fz (oD c)) SB (.fz (.lst LA)) (.fz (.bl FB)) u14) = evB g b25_0 (st25 hp ps L F (.fz (.str p.1)) (.fz (.str fp)) (.fz (oD fh)) NS KK (.fz (wsD p.2)) (.fz (oD c)) SB (.fz (.lst LA)) (.fz (.bl FB)) (.fz (.str v))) := rfl
      rw [h0]
      refine cons_nx (ite_f ?_ nil_nx) nil_nx
      have sg := seats_gt (g := g) (fr := (st25 hp ps L F (.fz (.str p.1)) (.fz (.str fp)) (.fz (oD fh)) NS KK (.fz (wsD p.2)) (.fz (oD c)) SB (.fz (.lst LA)) (.fz (.bl FB)) (.fz (.str v))).fr) (i := 14) (L := L) e5 m5 v5 o rfl rfl rfl esv
      rw [d1] at sg
      have t1 : evT g (.val (.bi (.cm .gt) (.cons (.bi .idx (.cons (.bi .toDic (.cons (.prop (.var 0) 0 "places" 5) .nil)) (.cons (.var 14) .nil))) (.cons (.bm .count (.bor 2) (.cons (.var 14) .nil)) .nil)))) (st25 hp ps L F (.fz (.str p.1)) (.fz (.str fp)) (.fz (oD fh)) NS KK (.fz (wsD p.2)) (.fz (oD c)) SB (.fz (.lst LA)) (.fz (.bl FB)) (.fz (.str v))) = .ok false (st25 hp ps L F (.fz (.str p.1)) (.fz (.str fp)) (.fz (oD fh)) NS KK (.fz (wsD p.2)) (.fz (oD c)) SB (.fz (.lst LA)) (.fz (.bl FB)) (.fz (.str v))) := by
        rw [evT_val, sg]
        rfl
      have dr : List.drop (pre.length + 1) (L.map oD) = Lpost.map oD := by rw [← h3]; exact drop_pre1 h2.symm
      rw [evT_or, t1]
      simp! only [st25, KK, cut_from1, dr, anyEq_oD, d2]) a [] (st25 hp ps L F (.fz (.str p.1)) (.fz (.str fp)) (.fz (oD fh)) NS KK (.fz (wsD p.2)) (.fz (oD c)) SB (.fz (.lst LA)) (.fz (.bl FB)) .emp) ⟨rfl, _, rfl⟩
    refine ⟨u14, for_gen (st' := st25 hp ps L F (.fz (.str p.1)) (.fz (.str fp)) (.fz (oD fh)) NS KK (.fz (wsD p.2)) (.fz (oD c)) SB (.fz (.lst LA)) (.fz (.bl FB)) .emp) ?_ e⟩
    have ie := u_indexT (findEq_str wb)
    have ib : (better p.2 c).idxOf fp = a.length := by
      rw [hb] at ndb ⊢
      exact idx_mid ndb
    rw [ib] at ie
    have tk : List.take a.length ((better p.2 c).map D.str) = a.map D.str := take_pre (post := fp :: b) hb.symm
    simp! only [st25, SB, ie, cut_to, tk]
  obtain ⟨u14, s9⟩ := s9
  have s10 : evB g (.cons (.ret (.or (.var 13) (.bi (.cm .ne) (.cons (.var 12) (.cons (.lstE .nil) .nil))))) .nil) (st25 hp ps L F (.fz (.str p.1)) (.fz (.str fp)) (.fz (oD fh)) NS KK (.fz (wsD p.2)) (.fz (oD c)) SB (.fz (.lst LA)) (.fz (.bl FB)) u14) = .ok (.ret (.fz (.bl true))) (st25 hp ps L F (.fz (.str p.1)) (.fz (.str fp)) (.fz (oD fh)) NS KK (.fz (wsD p.2)) (.fz (oD c)) SB (.fz (.lst LA)) (.fz (.bl FB)) u14) := by
    rcases hw2 with ⟨q1, q2⟩ | ⟨q1, y, ys, q2, q3⟩
    · have fr : FB = true := decide_eq_true (by omega)
      generalize FB = X at fr
      subst fr
      simp! only [st25]
    · have fr : FB = false := decide_eq_false (by omega)
      generalize FB = X at fr
      subst fr
      have la : LA = D.str y :: ys.map D.str := by show (laters post Lpost fp).map D.str = _; rw [q2]; rfl
      have okl : okN 60 (.lst (D.str y :: ys.map D.str)) = true := by
        rw [← la]
        show ((laters post Lpost fp).map D.str).all (okN 59) = true
        rw [List.all_map, List.all_eq_true]
        intro z mz
        unfold laters at mz
        obtain ⟨q, mq, eq⟩ := List.mem_filterMap.mp mz
        split at eq
        · cases eq
          have : q.1 ∈ ps := by
            rw [h1]
            exact List.mem_append_right _ (List.mem_cons_of_mem _ (List.of_mem_zip mq).1)
          exact okNS (List.mem_append_right _ (k.nm _ this)) 59
        · cases eq
      have nel := lst_ne okl
      generalize LA = X at la
      subst la
      simp! only [st25, nel, List.isEmpty_cons]
  have sb := cons_nx s1 (cons_nx s2 (cons_nx s3 (cons_nx s4 (cons_nx s5 (cons_nx s6 (cons_nx s7 (cons_nx s8 (cons_nx s9 s10))))))))
  show (match evB g b25 (st25 hp ps L F .emp .emp .emp .emp .emp .emp .emp .emp .emp .emp .emp) with
    | .ok (.ret (.bo _)) _ => FR.bad
    | .ok (.ret r) s => .ok r (maskS c25.md (s.fr.take 4)) s.out
    | .ok .nx s => .ok (.fz .non) (maskS c25.md (s.fr.take 4)) s.out
    | .exc c vs s => .exc c vs (maskS c25.md (s.fr.take 4)) s.out
    | _ => .bad).nox = _
  unfold b25
  rw [sb]
  rfl
end MiQ

set_option Elab.async false
set_option linter.all false
set_option maxRecDepth 100000
set_option maxHeartbeats 1000000
/-! k19: the law. -/
namespace MiQ
open PySem L2 Mi MiP
variable {wf n : Nat}
theorem idx_get {x : Str} : ∀ {xs : List Str} {i : Nat}, xs.Nodup → xs[i]? = some x → xs.idxOf x = i
  | [], _, _, h => by simp at h
  | y :: xs, 0, _, h => by
    have h : y = x := by simpa using h
    subst h
    exact List.idxOf_cons_self
  | y :: xs, i + 1, nd, h => by
    have h : xs[i]? = some x := by simpa using h
    rw [List.nodup_cons] at nd
    have ne : y ≠ x := fun e => nd.1 (by rw [e]; exact List.mem_of_getElem? h)
    rw [idx_ne ne, idx_get nd.2 h]
theorem mended {hp : Fre} {ps : Ppl} {L : List (Option Str)} {f : Str × Str × Option Str} (o : HOK hp) (k : POK hp ps) (l : LOK hp ps L) (hf : fault (freeOf hp L) ps L = some f) :
    ∃ kk, kk < L.length ∧ f.1 ∈ ps.map (·.1) ∧ (ps.map (·.1)).idxOf f.1 = kk ∧ (f.2.2 = none → LOK hp ps (L.set kk (some f.2.1))) ∧
      ∀ y, f.2.2 = some y → ∃ j, j < L.length ∧ y ∈ ps.map (·.1) ∧ (ps.map (·.1)).idxOf y = j ∧ LOK hp ps ((L.set kk (some f.2.1)).set j none) := by
  obtain ⟨pre, p, post, Lpre, c, Lpost, h1, h2, h3, h4⟩ := fault_some hf
  obtain ⟨a, w, b, hb, ha, hw⟩ := faultIn_some h4
  have pm : p ∈ ps := by rw [h1]; simp
  have gp : ps[pre.length]? = some p := mid_get h1.symm
  have gc : L[pre.length]? = some c := by rw [← h3]; exact mid_get h2.symm
  have wb : w ∈ better p.2 c := by rw [hb]; simp
  have wp := better_sub wb
  have wh := (k.ws p pm).ss w wp
  have ix : (ps.map (·.1)).idxOf p.1 = pre.length := idx_get k.nd (by rw [List.getElem?_map, gp]; rfl)
  have kl : pre.length < L.length := (List.getElem?_eq_some_iff.mp gc).1
  have pn : p.1 ∈ ps.map (·.1) := List.mem_map.mpr ⟨p, pm, rfl⟩
  rcases hw with ⟨q1, q2⟩ | ⟨q1, y, ys, q2, q3⟩
  · subst q2
    exact ⟨pre.length, kl, pn, ix, fun _ => mend_free o l gp gc wp wh q1, fun y e => by cases e⟩
  · subst q3
    refine ⟨pre.length, kl, pn, ix, fun e => (by cases e), fun y' e => ?_⟩
    cases e
    obtain ⟨m, p2, g1, g2, g3⟩ := laters_holder q2
    have d1 : ps[pre.length + 1 + m]? = some p2 := by
      rw [h1, List.getElem?_append_right (by omega), show pre.length + 1 + m - pre.length = m + 1 by omega]
      exact g1
    have d2 : L[pre.length + 1 + m]? = some (some w) := by
      rw [h2, List.getElem?_append_right (by omega), show pre.length + 1 + m - Lpre.length = m + 1 by omega]
      exact g3
    exact ⟨pre.length + 1 + m, (List.getElem?_eq_some_iff.mp d2).1, by rw [← g2]; exact List.mem_map.mpr ⟨p2, List.mem_of_getElem? d1, rfl⟩, idx_get k.nd (by rw [List.getElem?_map, d1, ← g2]; rfl), mend_held l gp gc wp (by omega) d1 d2⟩
theorem put_set {L : List (Option Str)} {k : Nat} {o : Option Str} (h : k < L.length) : putI (.int (k : Nat)) (oD o) (.lst (L.map oD)) = some (.lst ((L.set k o).map oD)) := by
  have ix : ixN (L.map oD).length (k : Int) = some k := by
    unfold ixN
    rw [List.length_map, if_pos (by omega), if_pos (by omega)]
    simp
  show (ixN (L.map oD).length (k : Int)).map (fun j => D.lst ((L.map oD).set j (oD o))) = _
  rw [ix]
  show some (D.lst ((L.map oD).set k (oD o))) = _
  rw [List.map_set]
theorem ok_L {hp : Fre} {ps : Ppl} {L : List (Option Str)} (o : HOK hp) (k : POK hp ps) (l : LOK hp ps L) : okN 60 (.lst (L.map oD)) = true := by
  show (L.map oD).all (okN 59) = true
  rw [List.all_map, List.all_eq_true]
  intro x m
  cases x with
  | none => rfl
  | some w =>
    obtain ⟨i, hi⟩ := List.mem_iff_getElem?.mp m
    obtain ⟨p, h1, h2⟩ := l.mem i _ hi
    exact okNS (List.mem_append_left _ (nm_of o ((k.ws p (List.mem_of_getElem? h1)).ss w (h2 w rfl)))) 59
theorem allEq_oD : ∀ (L M : List (Option Str)), allEq (eqN 59) (L.map oD) (M.map oD) = decide (L = M)
  | [], [] => rfl
  | [], _ :: _ => rfl
  | _ :: _, [] => rfl
  | a :: L, b :: M => by
    show (eqN 59 (oD a) (oD b) && allEq (eqN 59) (L.map oD) (M.map oD)) = _
    rw [allEq_oD L M]
    have e : eqN 59 (oD a) (oD b) = (a == b) := by cases a <;> cases b <;> rfl
    rw [e, Bool.eq_iff_iff]
    simp
theorem eq_lists {L M : List (Option Str)} (h1 : okN 60 (.lst (L.map oD)) = true) (h2 : okN 60 (.lst (M.map oD)) = true) : eqD (.lst (L.map oD)) (.lst (M.map oD)) = some (decide (L = M)) := by
  unfold eqD
  rw [if_neg (by show ¬ (false = true); decide), if_pos ⟨h1, h2⟩]
  show some (allEq (eqN 59) (L.map oD) (M.map oD)) = _
  rw [allEq_oD]
theorem eqbb {a b : Bool} : eqD (.bl a) (.bl b) = some (a == b) := rfl
/-- what is known of the calls that the law makes -/
structure Da (g : G) (hp : Fre) (ps : Ppl) : Prop where
  m15 : g.md 15 = [false, false]
  v15 : g.va 15 = false
  c15 : g.call 15 [.fz (hD hp), .fz (pplD ps)] = .ok (.ow (.dic (kvD oD (takes hp ps))) []) [.emp, .emp] []
  m18 : g.md 18 = [false, false, false]
  v18 : g.va 18 = false
  c18 : ∀ L, LOK hp ps L → g.call 18 [.fz (hD hp), .fz (pplD ps), .fz (LD L)] = .ok (.fz (foD (fault (freeOf hp L) ps L))) [.emp, .emp, .emp] []
  m24 : g.md 24 = [true, false, false]
  v24 : g.va 24 = false
  c24 : ∀ (ns : List Int) (a b c : Int), 0 ≤ a → ∃ (L : List (Option Str)) (a' b' c' : Int), 0 ≤ a' ∧ LOK hp ps L ∧ g.call 24 [.ow (rwD ns a b c) [], .fz (hD hp), .fz (pplD ps)] = .ok (.ow (.lst (L.map oD)) []) [.ow (rwD ns a' b' c') [], .emp, .emp] []
  m25 : g.md 25 = [false, false, true, false]
  v25 : g.va 25 = false
  c25 : ∀ L f, LOK hp ps L → fault (freeOf hp L) ps L = some f → g.call 25 [.fz (hD hp), .fz (pplD ps), .ow (.lst (L.map oD)) [], .fz (faD f)] = .ok (.fz (.bl true)) [.emp, .emp, .ow (.lst (L.map oD)) [], .emp] []
abbrev st26 (s0 s1 s2 s3 : Slot) (hp : Fre) (ps : Ppl) (M L : List (Option Str)) (s9 s10 s11 s12 s13 : Slot) : Sta :=
  ⟨[s0, s1, s2, s3, .fz (pplD ps), .fz (hD hp), .fz (.lst (M.map oD)), .ow (.lst (L.map oD)) [], .fz (.lst ((ps.map (·.1)).map D.str)), s9, s10, s11, s12, s13, .emp], []⟩
theorem call18 {g : G} {hp : Fre} {ps : Ppl} {L : List (Option Str)} (da : Da g hp ps) (l : LOK hp ps L) {fr : List Slot} (h4 : fr[4]? = some (.fz (pplD ps))) (h5 : fr[5]? = some (.fz (hD hp))) (h7 : fr[7]? = some (.ow (.lst (L.map oD)) [])) :
    evE g (.call 18 (.cons (.var 5) (.cons (.var 4) (.cons (.bi .toTup (.cons (.bor 7) .nil)) .nil)))) ⟨fr, []⟩ = .ok (.fz (foD (fault (freeOf hp L) ps L))) ⟨fr, []⟩ := by
  have c := da.c18 L l
  have m := da.m18
  have v := da.v18
  simp! only [h4, h5, h7, m, v, c]
theorem call18b {g : G} {hp : Fre} {ps : Ppl} {L : List (Option Str)} (da : Da g hp ps) (l : LOK hp ps L) {fr : List Slot} (h4 : fr[4]? = some (.fz (pplD ps))) (h5 : fr[5]? = some (.fz (hD hp))) (h6 : fr[6]? = some (.fz (.lst (L.map oD)))) :
    evE g (.call 18 (.cons (.var 5) (.cons (.var 4) (.cons (.bi .toTup (.cons (.var 6) .nil)) .nil)))) ⟨fr, []⟩ = .ok (.fz (foD (fault (freeOf hp L) ps L))) ⟨fr, []⟩ := by
  have c := da.c18 L l
  have m := da.m18
  have v := da.v18
  simp! only [h4, h5, h6, m, v, c]
theorem isN_gen {g : G} {e : CE} {st : Sta} {f : Option (Str × Str × Option Str)} (h : evE g e st = .ok (.fz (foD f)) st) : evE g (.bi (.cm .isN) (.cons e (.cons (.cst .non) .nil))) st = .ok (.fz (.bl f.isNone)) st := by
  cases f with
  | none => simp! only [h, foD]; rfl
  | some f => simp! only [h, foD, faD]; rfl
theorem notN_gen {g : G} {e : CE} {st : Sta} {f : Option (Str × Str × Option Str)} (h : evE g e st = .ok (.fz (foD f)) st) : evE g (.bi (.cm .notN) (.cons e (.cons (.cst .non) .nil))) st = .ok (.fz (.bl f.isSome)) st := by
  cases f with
  | none => simp! only [h, foD]
  | some f => simp! only [h, foD, faD]
theorem val_gen {g : G} {e : CE} {st : Sta} {b : Bool} (h : evE g e st = .ok (.fz (.bl b)) st) : evT g (.val e) st = .ok b st := by
  rw [evT_val, h]
  rfl
theorem setI_gen {g : G} {i : Nat} {k e : CE} {st : Sta} {dv dk d d' : D} {rv rk : R} {sub : List Nat} (ho : st.fr[i]? = some (.ow d sub)) (he : evE g e st = .ok rv st) (hv : keepR rv = some dv) (hk : evE g k st = .ok rk st) (hd : keepR rk = some dk) (hp : putI dk dv d = some d') :
    evS g (.setI i k e) st = .ok .nx { st with fr := st.fr.set i (.ow d' sub) } := by
  have lt := (List.getElem?_eq_some_iff.mp ho).1
  have h1 : ownM i (fun _ => true) st = .ok () st := by
    unfold ownM
    rw [ho]
    rfl
  have h2 : updI i (putI dk dv) st = .ok () { st with fr := st.fr.set i (.ow d' sub) } := by
    unfold updI
    rw [bindq, getq, ho]
    dsimp only
    rw [hp]
    dsimp only
    rw [setq, if_pos lt]
  rw [evS_setI, bindq, he]
  dsimp only
  rw [bindq, h1]
  dsimp only
  rw [bindq, hk]
  dsimp only
  rw [bindq, keepq, hv]
  dsimp only
  rw [bindq, keepq, hd]
  dsimp only
  rw [bindq, h2]
  rfl
theorem step26 {g : G} {hp : Fre} {ps : Ppl} {M L : List (Option Str)} {s0 s1 s2 s3 s9 s10 s11 s12 s13 : Slot} {i : Int} (o : HOK hp) (k : POK hp ps) (da : Da g hp ps) (l : LOK hp ps L) : ∃ (L' : List (Option Str)) (u10 u11 u12 u13 : Slot), LOK hp ps L' ∧
    loopF g (.nm 9) b26_0 (.int i) (st26 s0 s1 s2 s3 hp ps M L s9 s10 s11 s12 s13) = .ok .nx (st26 s0 s1 s2 s3 hp ps M L' (.fz (.int i)) u10 u11 u12 u13) := by
  have h0 : loopF g (.nm 9) b26_0 (.int i) (st26 s0 s1 s2 s3 hp ps M L s9 s10 s11 s12 s13) = evB g b26_0 (st26 s0 s1 s2 s3 hp ps M L (.fz (.int i)) s10 s11 s12 s13) := rfl
  have e18 := call18 da l (fr := (st26 s0 s1 s2 s3 hp ps M L (.fz (.int i)) s10 s11 s12 s13).fr) rfl rfl rfl
  cases hf : fault (freeOf hp L) ps L with
  | none =>
    rw [hf] at e18
    refine ⟨L, .fz .non, s11, s12, s13, l, ?_⟩
    rw [h0]
    refine cons_nx (asg_st (st'' := st26 s0 s1 s2 s3 hp ps M L (.fz (.int i)) (.fz .non) s11 s12 s13) e18 rfl rfl) (cons_nx (ite_f ?_ nil_nx) nil_nx)
    simp! only [st26]
  | some f =>
    rw [hf] at e18
    obtain ⟨kk, kl, fm, ix, fn, fs⟩ := mended o k l hf
    have c25 := da.c25 L f l hf
    have m25 := da.m25
    have v25 := da.v25
    have s1' : evS g (.asg 10 false (.call 18 (.cons (.var 5) (.cons (.var 4) (.cons (.bi .toTup (.cons (.bor 7) .nil)) .nil))))) (st26 s0 s1 s2 s3 hp ps M L (.fz (.int i)) s10 s11 s12 s13) = .ok .nx (st26 s0 s1 s2 s3 hp ps M L (.fz (.int i)) (.fz (faD f)) s11 s12 s13) := asg_st e18 rfl rfl
    have t1 : evT g (.val (.bi (.cm .notN) (.cons (.var 10) (.cons (.cst .non) .nil)))) (st26 s0 s1 s2 s3 hp ps M L (.fz (.int i)) (.fz (faD f)) s11 s12 s13) = .ok true (st26 s0 s1 s2 s3 hp ps M L (.fz (.int i)) (.fz (faD f)) s11 s12 s13) := by
      simp! only [st26, faD]
    have s2' : evS g (.ite (.not (.val (.call 25 (.cons (.var 5) (.cons (.var 4) (.cons (.bor 7) (.cons (.var 10) .nil))))))) (.cons (.ret (.cst (.bl false))) .nil) .nil) (st26 s0 s1 s2 s3 hp ps M L (.fz (.int i)) (.fz (faD f)) s11 s12 s13) = .ok .nx (st26 s0 s1 s2 s3 hp ps M L (.fz (.int i)) (.fz (faD f)) s11 s12 s13) := by
      refine ite_f ?_ nil_nx
      simp! only [st26, m25, v25, c25]
    have s3' : evS g (.asgT (.tn [11, 12, 13]) (.var 10)) (st26 s0 s1 s2 s3 hp ps M L (.fz (.int i)) (.fz (faD f)) s11 s12 s13) = .ok .nx (st26 s0 s1 s2 s3 hp ps M L (.fz (.int i)) (.fz (faD f)) (.fz (.str f.1)) (.fz (.str f.2.1)) (.fz (oD f.2.2))) := by
      simp! only [st26, faD]
    have s4' : evS g (.setI 7 (.bm .index (.var 8) (.cons (.var 11) .nil)) (.var 12)) (st26 s0 s1 s2 s3 hp ps M L (.fz (.int i)) (.fz (faD f)) (.fz (.str f.1)) (.fz (.str f.2.1)) (.fz (oD f.2.2))) =
        .ok .nx (st26 s0 s1 s2 s3 hp ps M (L.set kk (some f.2.1)) (.fz (.int i)) (.fz (faD f)) (.fz (.str f.1)) (.fz (.str f.2.1)) (.fz (oD f.2.2))) := by
      have e := u_indexL (findEq_str fm)
      rw [ix] at e
      have pu : putI (.int (kk : Nat)) (.str f.2.1) (.lst (L.map oD)) = some (.lst ((L.set kk (some f.2.1)).map oD)) := put_set (o := some f.2.1) kl
      exact setI_gen (d := .lst (L.map oD)) (sub := []) (rv := .fz (.str f.2.1)) (rk := .fz (.int (kk : Nat))) rfl (by simp! only [st26]) rfl (by simp! only [st26, e]) rfl pu
    cases h : f.2.2 with
    | none =>
      rw [h] at s3' s4'
      refine ⟨L.set kk (some f.2.1), .fz (faD f), .fz (.str f.1), .fz (.str f.2.1), .fz (oD none), fn h, ?_⟩
      rw [h0]
      refine cons_nx s1' (cons_nx (ite_t t1 (cons_nx s2' (cons_nx s3' (cons_nx s4' (cons_nx (ite_f ?_ nil_nx) nil_nx))))) nil_nx)
      simp! only [st26, oD]
    | some y =>
      rw [h] at s3' s4'
      obtain ⟨j, jl, ym, iy, lk⟩ := fs y h
      refine ⟨(L.set kk (some f.2.1)).set j none, .fz (faD f), .fz (.str f.1), .fz (.str f.2.1), .fz (oD (some y)), lk, ?_⟩
      rw [h0]
      refine cons_nx s1' (cons_nx (ite_t t1 (cons_nx s2' (cons_nx s3' (cons_nx s4' (cons_nx (ite_t (st' := st26 s0 s1 s2 s3 hp ps M (L.set kk (some f.2.1)) (.fz (.int i)) (.fz (faD f)) (.fz (.str f.1)) (.fz (.str f.2.1)) (.fz (oD (some y)))) ?_ (cons_nx ?_ nil_nx)) nil_nx))))) nil_nx)
      · simp! only [st26, oD]
      · have e := u_indexL (findEq_str ym)
        rw [iy] at e
        have pu : putI (.int (j : Nat)) .non (.lst ((L.set kk (some f.2.1)).map oD)) = some (.lst (((L.set kk (some f.2.1)).set j none).map oD)) := put_set (o := none) (by rw [List.length_set]; exact jl)
        exact setI_gen (d := .lst ((L.set kk (some f.2.1)).map oD)) (sub := []) (rv := .fz .non) (rk := .fz (.int (j : Nat))) rfl (by simp! only [st26]) rfl (by simp! only [st26, oD, e]) rfl pu
theorem loop26 {g : G} {hp : Fre} {ps : Ppl} {M L : List (Option Str)} {s0 s1 s2 s3 s9 s10 s11 s12 s13 : Slot} (o : HOK hp) (k : POK hp ps) (da : Da g hp ps) (l : LOK hp ps L) (N : Nat) {enc : Nat → D} (henc : ∀ i, ∃ z, enc i = .int z) : ∃ (L' : List (Option Str)) (u9 u10 u11 u12 u13 : Slot), LOK hp ps L' ∧
    forL (loopF g (.nm 9) b26_0) ((List.range N).map enc) (st26 s0 s1 s2 s3 hp ps M L s9 s10 s11 s12 s13) = .ok .nx (st26 s0 s1 s2 s3 hp ps M L' u9 u10 u11 u12 u13) := by
  let I : List Nat → List Nat → Sta → Prop := fun _ _ s => ∃ (L : List (Option Str)) (u9 u10 u11 u12 u13 : Slot), LOK hp ps L ∧ s = st26 s0 s1 s2 s3 hp ps M L u9 u10 u11 u12 u13
  obtain ⟨s', e, L', u9, u10, u11, u12, u13, l', rfl⟩ := forL_thru (f := loopF g (.nm 9) b26_0) enc I (fun pre i post s ⟨L, u9, u10, u11, u12, u13, l, e⟩ => by
    subst e
    obtain ⟨z, ez⟩ := henc i
    rw [ez]
    obtain ⟨L', v10, v11, v12, v13, l', es⟩ := step26 (M := M) (s0 := s0) (s1 := s1) (s2 := s2) (s3 := s3) (s9 := u9) (s10 := u10) (s11 := u11) (s12 := u12) (s13 := u13) (i := z) o k da l
    exact ⟨_, es, L', _, v10, v11, v12, v13, l', rfl⟩) (List.range N) [] (st26 s0 s1 s2 s3 hp ps M L s9 s10 s11 s12 s13) ⟨L, _, _, _, _, _, l, rfl⟩
  exact ⟨L', u9, u10, u11, u12, u13, l', e⟩
structure Dt (g : G) : Prop where
  m20 : g.md 20 = [true, false]
  v20 : g.va 20 = false
  c20 : ∀ (ns : List Int) (a b c : Int), 0 ≤ a → ∃ (hp : Fre) (a' b' c' : Int) (cnt : Nat), 0 ≤ a' ∧ hp.map (·.1) = PN.take cnt ∧ 1 ≤ cnt ∧ cnt ≤ 8 ∧ (∀ p ∈ hp, 0 ≤ p.2 ∧ p.2 ≤ 9) ∧
    g.call 20 [.ow (rwD ns a b c) [], .fz (.int 8)] = .ok (.fz (rowsD hp)) [.ow (rwD ns a' b' c') [], .emp] []
  m22 : g.md 22 = [true, false, false]
  v22 : g.va 22 = false
  c22 : ∀ (ns : List Int) (a b c : Int) (hp : Fre), 0 ≤ a → hp ≠ [] → hp.length ≤ 8 → (hp.map (·.1)).Nodup → (∀ p ∈ hp, p.1 ∈ PN) → ∃ (ps : Ppl) (a' b' c' : Int), 0 ≤ a' ∧ POK hp ps ∧
    g.call 22 [.ow (rwD ns a b c) [], .fz (rowsD hp), .fz (.int 9)] = .ok (.fz (pplD ps)) [.ow (rwD ns a' b' c') [], .emp, .emp] []
  m23 : g.md 23 = [false]
  v23 : g.va 23 = false
  c23 : ∀ (hp : Fre) (cnt : Nat), hp.map (·.1) = PN.take cnt → 1 ≤ cnt → cnt ≤ 8 → (∀ p ∈ hp, 0 ≤ p.2 ∧ p.2 ≤ 9) → ∃ hp' : Fre, HOK hp' ∧ (∀ w ∈ hp.map (·.1), w ∈ hp'.map (·.1)) ∧ g.call 23 [.fz (rowsD hp)] = .ok (.fz (hD hp')) [.emp] []
  da : ∀ hp ps, HOK hp → POK hp ps → Da g hp ps
theorem G_call {f : Nat → List Slot → FR} {a b c j l} : (G.mk f a b c).call j l = f j l := rfl
theorem da_of {hp : Fre} {ps : Ppl} (o : HOK hp) (k : POK hp ps) : Da ⟨run0 text wf (n + 5), mdOf text, vaOf text, wf⟩ hp ps :=
  ⟨rfl, rfl, q15 (wf := wf) (n := n + 1) o k, rfl, rfl, fun L l => q18 (wf := wf) (n := n) o k l, rfl, rfl, fun ns a b c h => q24 (wf := wf) (n := n + 3) h o k, rfl, rfl, fun L f l h => q25 (wf := wf) (n := n + 3) o k l h⟩
theorem dt_of : Dt ⟨run0 text wf (n + 5), mdOf text, vaOf text, wf⟩ :=
  ⟨rfl, rfl, fun ns a b c h => q20 (wf := wf) (n := n + 3) h, rfl, rfl, fun ns a b c hp h1 h2 h3 h4 h5 => q22 (wf := wf) (n := n + 2) h1 h2 h3 h4 h5, rfl, rfl, fun hp cnt h1 h2 h3 h4 => (by obtain ⟨hp', x, y, z⟩ := q23 (wf := wf) (n := n) h1 h2 h3 h4; refine ⟨hp', x, y, ?_⟩; rw [G_call]; exact z), fun hp ps o k => da_of (wf := wf) (n := n) o k⟩
abbrev stL (ns : List Int) (a b c : Int) (s2 s3 s4 s5 s6 s7 s8 s9 s10 s11 s12 s13 : Slot) : Sta :=
  ⟨[.fz (.scr ns), .ow (rwD ns a b c) [], s2, s3, s4, s5, s6, s7, s8, s9, s10, s11, s12, s13, .emp], []⟩
theorem stepL {g : G} (dt : Dt g) {ns : List Int} {a b c : Int} {s2 s3 s4 s5 s6 s7 s8 s9 s10 s11 s12 s13 : Slot} {i : Int} (ha : 0 ≤ a) : ∃ (a' b' c' : Int) (t3 t4 t5 t6 t7 t8 t9 t10 t11 t12 t13 : Slot), 0 ≤ a' ∧
    loopF g (.nm 2) b26_1 (.int i) (stL ns a b c s2 s3 s4 s5 s6 s7 s8 s9 s10 s11 s12 s13) = .ok .nx (stL ns a' b' c' (.fz (.int i)) t3 t4 t5 t6 t7 t8 t9 t10 t11 t12 t13) := by
  have h0 : loopF g (.nm 2) b26_1 (.int i) (stL ns a b c s2 s3 s4 s5 s6 s7 s8 s9 s10 s11 s12 s13) = evB g b26_1 (stL ns a b c (.fz (.int i)) s3 s4 s5 s6 s7 s8 s9 s10 s11 s12 s13) := rfl
  obtain ⟨rp, a1, b1, c1, cnt, ha1, rk, cn1, cn8, rs, e20⟩ := dt.c20 ns a b c ha
  have rnd : (rp.map (·.1)).Nodup := by
    rw [rk]
    exact (show PN.Nodup by decide +kernel).sublist (List.take_sublist _ _)
  have rlen : rp.length = cnt := by
    have := congrArg List.length rk
    rw [List.length_map, List.length_take] at this
    have p : PN.length = 8 := rfl
    omega
  obtain ⟨ps, a2, b2, c2, ha2, pk, e22⟩ := dt.c22 ns a1 b1 c1 rp ha1 (fun z => by rw [z] at rlen; simp at rlen; omega) (by omega) rnd (fun p m => List.mem_of_mem_take (i := cnt) (by rw [← rk]; exact List.mem_map.mpr ⟨p, m, rfl⟩))
  obtain ⟨hp, o, sub, e23⟩ := dt.c23 rp cnt rk cn1 cn8 rs
  have k : POK hp ps := ⟨pk.le, pk.nd, pk.nm, fun p m => ⟨(pk.ws p m).ne, (pk.ws p m).nd, fun w mw => sub w ((pk.ws p m).ss w mw)⟩⟩
  have da := dt.da hp ps o k
  obtain ⟨L, a3, b3, c3, ha3, l, e24⟩ := da.c24 ns a2 b2 c2 ha2
  let M : List (Option Str) := (takes hp ps).map (·.2)
  have lM : LOK hp ps M := takes_lok o k
  have m20 := dt.m20
  have v20 := dt.v20
  have m22 := dt.m22
  have v22 := dt.v22
  have m23 := dt.m23
  have v23 := dt.v23
  have m15 := da.m15
  have v15 := da.v15
  have m24 := da.m24
  have v24 := da.v24
  have c15 := da.c15
  have s1 : evS g (.asg 3 false (.call 20 (.cons (.bor 1) (.cons (.cst (.int 8)) .nil)))) (stL ns a b c (.fz (.int i)) s3 s4 s5 s6 s7 s8 s9 s10 s11 s12 s13) = .ok .nx (stL ns a1 b1 c1 (.fz (.int i)) (.fz (rowsD rp)) s4 s5 s6 s7 s8 s9 s10 s11 s12 s13) := by
    refine asg_gen (r := .fz (rowsD rp)) (st' := stL ns a1 b1 c1 (.fz (.int i)) s3 s4 s5 s6 s7 s8 s9 s10 s11 s12 s13) ?_ rfl rfl
    simp! only [stL, m20, v20, e20]
  have s2' : evS g (.par2 4 false (.call 22 (.cons (.bor 1) (.cons (.var 3) (.cons (.cst (.int 9)) .nil)))) 5 false (.call 23 (.cons (.var 3) .nil))) (stL ns a1 b1 c1 (.fz (.int i)) (.fz (rowsD rp)) s4 s5 s6 s7 s8 s9 s10 s11 s12 s13) =
      .ok .nx (stL ns a2 b2 c2 (.fz (.int i)) (.fz (rowsD rp)) (.fz (pplD ps)) (.fz (hD hp)) s6 s7 s8 s9 s10 s11 s12 s13) := by
    simp! only [stL, m22, v22, e22, m23, v23, e23]
  have s3' : evS g (.asg 6 false (.bi .listVals (.cons (.call 15 (.cons (.var 5) (.cons (.var 4) .nil))) .nil))) (stL ns a2 b2 c2 (.fz (.int i)) (.fz (rowsD rp)) (.fz (pplD ps)) (.fz (hD hp)) s6 s7 s8 s9 s10 s11 s12 s13) =
      .ok .nx (stL ns a2 b2 c2 (.fz (.int i)) (.fz (rowsD rp)) (.fz (pplD ps)) (.fz (hD hp)) (.fz (.lst (M.map oD))) s7 s8 s9 s10 s11 s12 s13) := by
    refine asg_st (r := .ow (.lst (M.map oD)) []) ?_ rfl rfl
    have er : (kvD oD (takes hp ps)).map (fun p => p.2) = M.map oD := by
      unfold kvD
      rw [List.map_map, List.map_map]
      rfl
    simp! only [stL, m15, v15, c15, er]
  have s4' : evS g (.par2 7 true (.call 24 (.cons (.bor 1) (.cons (.var 5) (.cons (.var 4) .nil)))) 8 false (.lc (.val (.var 4)) (.nm 14) .tt (.bi .idx (.cons (.var 14) (.cons (.cst (.int 0)) .nil))) [14])) (stL ns a2 b2 c2 (.fz (.int i)) (.fz (rowsD rp)) (.fz (pplD ps)) (.fz (hD hp)) (.fz (.lst (M.map oD))) s7 s8 s9 s10 s11 s12 s13) =
      .ok .nx (st26 (.fz (.scr ns)) (.ow (rwD ns a3 b3 c3) []) (.fz (.int i)) (.fz (rowsD rp)) hp ps M L s9 s10 s11 s12 s13) := by
    simp! only [stL, m24, v24, e24]
    rw [lcL_all perD (fun p => D.str p.1) _ ps (fun p _ => by
      have a0 : atI [D.str p.1, wsD p.2] 0 = some (.str p.1) := rfl
      simp! only [lcF, perD, a0]) (Nat.le_trans k.le l12)]
    have er : ps.map (fun p => D.str p.1) = (ps.map (·.1)).map D.str := by rw [List.map_map]; rfl
    rw [er]
    simp! only [st26]
  have okM := ok_L o k lM
  have iff1 : ∀ {L : List (Option Str)}, LOK hp ps L → (fault (freeOf hp L) ps L).isNone = decide (L = M) := fun l => by
    rw [Bool.eq_iff_iff, decide_eq_true_eq, Option.isNone_iff_eq_none]
    exact fault_none o k l
  have eqLM : ∀ {L : List (Option Str)} {fr : List Slot}, LOK hp ps L → fr[7]? = some (.ow (.lst (L.map oD)) []) → fr[6]? = some (.fz (.lst (M.map oD))) → evE g (.bi (.cm .eq) (.cons (.bor 7) (.cons (.var 6) .nil))) ⟨fr, []⟩ = .ok (.fz (.bl (decide (L = M)))) ⟨fr, []⟩ := fun l h7 h6 => by
    have e := eq_lists (ok_L o k l) okM
    simp! only [h7, h6, e]
  have neLM : ∀ {L : List (Option Str)} {fr : List Slot}, LOK hp ps L → fr[7]? = some (.ow (.lst (L.map oD)) []) → fr[6]? = some (.fz (.lst (M.map oD))) → evE g (.bi (.cm .ne) (.cons (.bor 7) (.cons (.var 6) .nil))) ⟨fr, []⟩ = .ok (.fz (.bl (!decide (L = M)))) ⟨fr, []⟩ := fun l h7 h6 => by
    have e := eq_lists (ok_L o k l) okM
    simp! only [h7, h6, e]
  have s5' : evS g (.ite (.val (.bi (.cm .ne) (.cons (.bi (.cm .isN) (.cons (.call 18 (.cons (.var 5) (.cons (.var 4) (.cons (.bi .toTup (.cons (.bor 7) .nil)) .nil)))) (.cons (.cst .non) .nil))) (.cons (.bi (.cm .eq) (.cons (.bor 7) (.cons (.var 6) .nil))) .nil)))) (.cons (.ret (.cst (.bl false))) .nil) .nil) (st26 (.fz (.scr ns)) (.ow (rwD ns a3 b3 c3) []) (.fz (.int i)) (.fz (rowsD rp)) hp ps M L s9 s10 s11 s12 s13) =
      .ok .nx (st26 (.fz (.scr ns)) (.ow (rwD ns a3 b3 c3) []) (.fz (.int i)) (.fz (rowsD rp)) hp ps M L s9 s10 s11 s12 s13) := by
    refine ite_f (val_gen ?_) nil_nx
    have e1 := isN_gen (call18 da l (fr := (st26 (.fz (.scr ns)) (.ow (rwD ns a3 b3 c3) []) (.fz (.int i)) (.fz (rowsD rp)) hp ps M L s9 s10 s11 s12 s13).fr) rfl rfl rfl)
    have e2 := eqLM (fr := (st26 (.fz (.scr ns)) (.ow (rwD ns a3 b3 c3) []) (.fz (.int i)) (.fz (rowsD rp)) hp ps M L s9 s10 s11 s12 s13).fr) l rfl rfl
    rw [iff1 l] at e1
    have bb : (decide (L = M) == decide (L = M)) = true := beq_self_eq_true _
    generalize decide (L = M) = B at e1 e2 bb
    generalize hE1 : CE.bi (.cm .isN) (.cons (.call 18 (.cons (.var 5) (.cons (.var 4) (.cons (.bi .toTup (.cons (.bor 7) .nil)) .nil)))) (.cons (.cst .non) .nil)) = E1 at e1
    generalize hE2 : CE.bi (.cm .eq) (.cons (.bor 7) (.cons (.var 6) .nil)) = E2 at e2
    have e1 : evE g E1 (st26 (.fz (.scr ns)) (.ow (rwD ns a3 b3 c3) []) (.fz (.int i)) (.fz (rowsD rp)) hp ps M L s9 s10 s11 s12 s13) = .ok (.fz (.bl B)) (st26 (.fz (.scr ns)) (.ow (rwD ns a3 b3 c3) []) (.fz (.int i)) (.fz (rowsD rp)) hp ps M L s9 s10 s11 s12 s13) := e1
    have e2 : evE g E2 (st26 (.fz (.scr ns)) (.ow (rwD ns a3 b3 c3) []) (.fz (.int i)) (.fz (rowsD rp)) hp ps M L s9 s10 s11 s12 s13) = .ok (.fz (.bl B)) (st26 (.fz (.scr ns)) (.ow (rwD ns a3 b3 c3) []) (.fz (.int i)) (.fz (rowsD rp)) hp ps M L s9 s10 s11 s12 s13) := e2
    generalize st26 (.fz (.scr ns)) (.ow (rwD ns a3 b3 c3) []) (.fz (.int i)) (.fz (rowsD rp)) hp ps M L s9 s10 s11 s12 s13 = S at e1 e2 ⊢
    simp only [evE_bi, evA, bindq, pureq, e1, e2, readsq, rdAll, rdR, Option.bind_some, Option.map_some, u_cm, v_ne, eqbb, bb, Bool.not_true, b_some, ofBR1]
  have er : rngD 0 400 = (List.range 400).map fun (i : Nat) => D.int (0 + (i : Int)) := by
    unfold rngD
    rw [show ((400 : Int) - 0).toNat = 400 from rfl]
  obtain ⟨L', u9, u10, u11, u12, u13, l', e⟩ := loop26 (M := M) (L := L) (s0 := .fz (.scr ns)) (s1 := .ow (rwD ns a3 b3 c3) []) (s2 := .fz (.int i)) (s3 := .fz (rowsD rp)) (s9 := s9) (s10 := s10) (s11 := s11) (s12 := s12) (s13 := s13) o k da l 400 (enc := fun i => .int (0 + (i : Int))) fun i => ⟨_, rfl⟩
  have s6' : evS g (.forS (.nm 9) (.rng1 (.cst (.int 400))) b26_0) (st26 (.fz (.scr ns)) (.ow (rwD ns a3 b3 c3) []) (.fz (.int i)) (.fz (rowsD rp)) hp ps M L s9 s10 s11 s12 s13) = .ok .nx (st26 (.fz (.scr ns)) (.ow (rwD ns a3 b3 c3) []) (.fz (.int i)) (.fz (rowsD rp)) hp ps M L' u9 u10 u11 u12 u13) :=
    for_gen (rng1_gen (i := 400) (st' := st26 (.fz (.scr ns)) (.ow (rwD ns a3 b3 c3) []) (.fz (.int i)) (.fz (rowsD rp)) hp ps M L s9 s10 s11 s12 s13) (by simp! only []) (rk_ok (by decide) (by decide))) (by rw [er]; exact e)
  have s7' : evS g (.ite (.and (.val (.bi (.cm .isN) (.cons (.call 18 (.cons (.var 5) (.cons (.var 4) (.cons (.bi .toTup (.cons (.bor 7) .nil)) .nil)))) (.cons (.cst .non) .nil)))) (.val (.bi (.cm .ne) (.cons (.bor 7) (.cons (.var 6) .nil))))) (.cons (.ret (.cst (.bl false))) .nil) .nil) (st26 (.fz (.scr ns)) (.ow (rwD ns a3 b3 c3) []) (.fz (.int i)) (.fz (rowsD rp)) hp ps M L' u9 u10 u11 u12 u13) =
      .ok .nx (st26 (.fz (.scr ns)) (.ow (rwD ns a3 b3 c3) []) (.fz (.int i)) (.fz (rowsD rp)) hp ps M L' u9 u10 u11 u12 u13) := by
    refine ite_f ?_ nil_nx
    have e1 := isN_gen (call18 da l' (fr := (st26 (.fz (.scr ns)) (.ow (rwD ns a3 b3 c3) []) (.fz (.int i)) (.fz (rowsD rp)) hp ps M L' u9 u10 u11 u12 u13).fr) rfl rfl rfl)
    have e2 := neLM (fr := (st26 (.fz (.scr ns)) (.ow (rwD ns a3 b3 c3) []) (.fz (.int i)) (.fz (rowsD rp)) hp ps M L' u9 u10 u11 u12 u13).fr) l' rfl rfl
    rw [iff1 l'] at e1
    rw [evT_and, val_gen e1]
    dsimp only
    by_cases q : L' = M
    · rw [if_pos (decide_eq_true q), val_gen e2, decide_eq_true q]
      rfl
    · rw [decide_eq_false q]
      rfl
  have s8' : evS g (.ite (.val (.bi (.cm .notN) (.cons (.call 18 (.cons (.var 5) (.cons (.var 4) (.cons (.bi .toTup (.cons (.var 6) .nil)) .nil)))) (.cons (.cst .non) .nil)))) (.cons (.ret (.cst (.bl false))) .nil) .nil) (st26 (.fz (.scr ns)) (.ow (rwD ns a3 b3 c3) []) (.fz (.int i)) (.fz (rowsD rp)) hp ps M L' u9 u10 u11 u12 u13) =
      .ok .nx (st26 (.fz (.scr ns)) (.ow (rwD ns a3 b3 c3) []) (.fz (.int i)) (.fz (rowsD rp)) hp ps M L' u9 u10 u11 u12 u13) := by
    refine ite_f (val_gen ?_) nil_nx
    have e1 := notN_gen (call18b da lM (fr := (st26 (.fz (.scr ns)) (.ow (rwD ns a3 b3 c3) []) (.fz (.int i)) (.fz (rowsD rp)) hp ps M L' u9 u10 u11 u12 u13).fr) rfl rfl rfl)
    have z : fault (freeOf hp M) ps M = none := (fault_none o k lM).mpr rfl
    rw [z] at e1
    exact e1
  refine ⟨a3, b3, c3, .fz (rowsD rp), .fz (pplD ps), .fz (hD hp), .fz (.lst (M.map oD)), .ow (.lst (L'.map oD)) [], .fz (.lst ((ps.map (·.1)).map D.str)), u9, u10, u11, u12, u13, ha3, ?_⟩
  rw [h0]
  exact cons_nx s1 (cons_nx s2' (cons_nx s3' (cons_nx s4' (cons_nx s5' (cons_nx s6' (cons_nx s7' (cons_nx s8' nil_nx)))))))
theorem q26 (ns : List Int) : ∃ outs tr, run0 text wf (n + 6) 26 [.fz (.scr ns)] = .ok (.fz (.bl true)) outs tr := by
  rw [rq (F := c26) rfl]
  have dt := dt_of (wf := wf) (n := n)
  generalize (⟨run0 text wf (n + 5), mdOf text, vaOf text, wf⟩ : G) = g at dt
  have s1 : evS g (.asg 1 true (.lstE (.cons (.var 0) (.cons (.cst (.int 0)) (.cons (.cst (.int 0)) (.cons (.cst (.int 0)) .nil)))))) ⟨[.fz (.scr ns), .emp, .emp, .emp, .emp, .emp, .emp, .emp, .emp, .emp, .emp, .emp, .emp, .emp, .emp], []⟩ = .ok .nx (stL ns 0 0 0 .emp .emp .emp .emp .emp .emp .emp .emp .emp .emp .emp .emp) := by
    simp! only [stL, l4]
  have er : rngD 0 3 = (List.range 3).map fun (i : Nat) => D.int (0 + (i : Int)) := by
    unfold rngD
    rw [show ((3 : Int) - 0).toNat = 3 from rfl]
  let I : List Nat → List Nat → Sta → Prop := fun _ _ s => ∃ (a b c : Int) (t2 t3 t4 t5 t6 t7 t8 t9 t10 t11 t12 t13 : Slot), 0 ≤ a ∧ s = stL ns a b c t2 t3 t4 t5 t6 t7 t8 t9 t10 t11 t12 t13
  obtain ⟨s', e, a, b, c, t2, t3, t4, t5, t6, t7, t8, t9, t10, t11, t12, t13, ha, rfl⟩ := forL_thru (f := loopF g (.nm 2) b26_1) (fun (i : Nat) => D.int (0 + (i : Int))) I (fun pre i post s ⟨a, b, c, t2, t3, t4, t5, t6, t7, t8, t9, t10, t11, t12, t13, ha, e⟩ => by
    subst e
    obtain ⟨a', b', c', r3, r4, r5, r6, r7, r8, r9, r10, r11, r12, r13, ha', es⟩ := stepL dt (ns := ns) (a := a) (b := b) (c := c) (s2 := t2) (s3 := t3) (s4 := t4) (s5 := t5) (s6 := t6) (s7 := t7) (s8 := t8) (s9 := t9) (s10 := t10) (s11 := t11) (s12 := t12) (s13 := t13) (i := 0 + (i : Int)) ha
    exact ⟨_, es, a', b', c', _, r3, r4, r5, r6, r7, r8, r9, r10, r11, r12, r13, ha', rfl⟩) (List.range 3) [] (stL ns 0 0 0 .emp .emp .emp .emp .emp .emp .emp .emp .emp .emp .emp .emp) ⟨0, 0, 0, _, _, _, _, _, _, _, _, _, _, _, _, Int.le_refl 0, rfl⟩
  have s2 : evS g (.forS (.nm 2) (.rng1 (.cst (.int 3))) b26_1) (stL ns 0 0 0 .emp .emp .emp .emp .emp .emp .emp .emp .emp .emp .emp .emp) = .ok .nx (stL ns a b c t2 t3 t4 t5 t6 t7 t8 t9 t10 t11 t12 t13) :=
    for_gen (rng1_gen (i := 3) (st' := stL ns 0 0 0 .emp .emp .emp .emp .emp .emp .emp .emp .emp .emp .emp .emp) (by simp! only []) (rk_ok (by decide) (by decide))) (by rw [er]; exact e)
  have s3 : evB g (.cons (.ret (.cst (.bl true))) .nil) (stL ns a b c t2 t3 t4 t5 t6 t7 t8 t9 t10 t11 t12 t13) = .ok (.ret (.fz (.bl true))) (stL ns a b c t2 t3 t4 t5 t6 t7 t8 t9 t10 t11 t12 t13) := by
    simp! only []
  have sb : evB g b26 ⟨[.fz (.scr ns), .emp, .emp, .emp, .emp, .emp, .emp, .emp, .emp, .emp, .emp, .emp, .emp, .emp, .emp], []⟩ = .ok (.ret (.fz (.bl true))) (stL ns a b c t2 t3 t4 t5 t6 t7 t8 t9 t10 t11 t12 t13) := cons_nx s1 (cons_nx s2 s3)
  refine ⟨[.emp], [], ?_⟩
  show (match evB g b26 ⟨[.fz (.scr ns), .emp, .emp, .emp, .emp, .emp, .emp, .emp, .emp, .emp, .emp, .emp, .emp, .emp, .emp], []⟩ with
    | .ok (.ret (.bo _)) _ => FR.bad
    | .ok (.ret r) s => .ok r (maskS c26.md (s.fr.take 1)) s.out
    | .ok .nx s => .ok (.fz .non) (maskS c26.md (s.fr.take 1)) s.out
    | .exc c vs s => .exc c vs (maskS c26.md (s.fr.take 1)) s.out
    | _ => .bad).nox = _
  rw [sb]
  rfl
end MiQ

set_option Elab.async false
set_option maxRecDepth 100000 in
set_option maxHeartbeats 8000000 in
theorem PySem.Challenge.cw_waitmoves_k19_whole_faults_that_are_mend_holds : PySem.Challenge.rw_waitmoves_k19_whole_faults_that_are_mend.Holds := by
  exact holds_of 100 fun ns _ => MiQ.q26 (wf := 100) (n := 15) ns
