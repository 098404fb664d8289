import PyProof.Rows.All
import Wide.All
import OpenK.AllK
import Wide.FinOn
import HandS.ForMost
import HandS.Deep
import HandS.IsInst
import HandS.TupAny
import HandS.TupMul
import HandS.Wide
import HandS.Style
import HandS.Flow
import HandS.Zip
import HandS.DictComp
import HandS.SetKeys
import HandS.FStr
import HandS.Conv
import HandS.SortRule
import HandS.SortInts
import HandS.More
import KE.KItemsList
import HandS.ListItems
import KE.DataMinMax
import HandS.SortKw
import PySem.Challenge.RW_casefamilies_k13_whole_meets_and_joins_a
set_option Elab.async false
set_option linter.all false
set_option maxRecDepth 100000
namespace Mp
open PySem

/-! ## values, the store -/
/-- a value: tuples (and the script) are values, lists and dicts stand at addresses -/
inductive D where
  | non | bl (b : Bool) | int (i : Int) | str (x : Str) | tup (xs : List D) | scr (ns : List Int) | ref (a : Addr)
  deriving Inhabited
inductive Ob where
  | lst (xs : List D)
  | dic (kvs : List (L2.Key × D))
  | lck (kvs : List (L2.Key × D))
abbrev Sto := Addr → Option Ob
def Sto.put (S : Sto) (a : Addr) (o : Ob) : Sto := fun b => if b = a then some o else S b
theorem put_same {S : Sto} {a : Addr} {o : Ob} : S.put a o a = some o := if_pos rfl
theorem put_ne {S : Sto} {a b : Addr} {o : Ob} (h : b ≠ a) : S.put a o b = S b := if_neg h
theorem put_put {S : Sto} {a : Addr} {o u : Ob} : (S.put a o).put a u = S.put a u := by
  funext b; unfold Sto.put; by_cases h : b = a <;> simp [h]

/-! ## the language -/
inductive Tg where
  | one (i : Nat) | tup (is : List Nat)
inductive Bt where
  | len | int | tuple | list | sum | max | min | any | all | repr | abs | str | dict | sorted
  deriving DecidableEq
inductive Ty where
  | int | bool | str | tuple | list | dict
  deriving DecidableEq
inductive Mt where
  | append | extend | pop | get | index
  deriving DecidableEq
/-- what a loop walks: a value, a range, two things side by side, what a name holds (a dict is locked) -/
inductive Ik where
  | val | rng | zip | nam
  deriving DecidableEq
inductive E where
  | non | bl (b : Bool) | int (i : Int) | str (x : Str)
  | v (i : Nat)
  | g (x : Str)
  | tup (es : List E) | lst (es : List E) | dnew
  | bin (o : Operator) (a b : E)
  | neg (a : E)
  | not (a : E) | and (a b : E) | or (a b : E) | tru (a : E)
  | cmp (o : CmpOp) (a b : E) | cmp2 (o p : CmpOp) (a b c : E)
  | ite (c a b : E)
  | call (f : Str) (es : List E)
  | blt (f : Bt) (es : List E)
  | isi (a : E) (t : Ty)
  | mth (m : Mt) (o : E) (es : List E)
  | ix (a i : E) | sl (a : E) (lo hi : List E)
  | lc (own : List Nat) (t : Tg) (k : Ik) (it : List E) (c elt : E)
  /-- {k: v, ..}: keys and values in turn -/
  | dlit (es : List E)
  | dc (own : List Nat) (t : Tg) (k : Ik) (it : List E) (c kx vx : E)
  /-- o.get(k), o.get(k, d) -/
  | dget (o k : E) (d : List E)
  /-- o.setdefault(k, d) -/
  | dsd (o k d : E)
  /-- list(range(..)), tuple(range(..)) -/
  | lrg (tp : Bool) (es : List E)
  /-- len(set(a)) -/
  | lset (a : E)
  /-- max(a, default=d), min(a, default=d) -/
  | mxd (mx : Bool) (a d : E)
  /-- list(zip(a, b)) -/
  | lzip (a b : E)
  /-- sep.join(a) -/
  | join (s a : E)
  /-- f'..': its parts, each a text -/
  | fst (es : List E)
  /-- {x} in f'..' -/
  | fmt (e : E)
inductive Sm where
  | asg (t : Tg) (e : E)
  | set (o i e : E)
  | aug (i : Nat) (o : Operator) (e : E)
  | ex (e : E)
  | ret (e : E) | retN
  | ite (c : E) (a b : List Sm)
  | loop (t : Tg) (k : Ik) (it : List E) (b : List Sm)
  | whl (c : E) (b : List Sm)
  | brk | cnt | pass
  | raise (x : Str) (es : List E)
structure Fn where
  ps : Nat
  n : Nat
  body : List Sm

/-! ## what a piece means -/
abbrev Sl := List (Option D)
abbrev Post := D → Sto → Prop
abbrev XPost := Str → List D → Sto → Prop
abbrev Callee := Str → List D → Sto → XPost → Post → Prop
structure En where
  nx : Sl → Sto → Prop
  rt : Post
  bk : Sl → Sto → Prop := fun _ _ => False
  ct : Sl → Sto → Prop := fun _ _ => False
  ex : XPost

/-- a new object -/
def pNew (o : Ob) (S : Sto) (Q : Post) : Prop := ∀ a, S a = none → Q (.ref a) (S.put a o)

/-! ### operators -/
def pAdd (x y : D) (S : Sto) (Q : Post) : Prop := match x, y with
  | .int i, .int j => Q (.int (i + j)) S
  | .str u, .str v => u.length + v.length ≤ sizeLine ∧ Q (.str (u ++ v)) S
  | .tup u, .tup v => u.length + v.length ≤ sizeLine ∧ Q (.tup (u ++ v)) S
  | .ref p, .ref q => match S p, S q with
    | some (.lst u), some (.lst v) => u.length + v.length ≤ sizeLine ∧ pNew (.lst (u ++ v)) S Q
    | _, _ => False
  | _, _ => False
def pMul (x y : D) (S : Sto) (Q : Post) : Prop := match x, y with
  | .int i, .int j => (i.natAbs.log2 + j.natAbs.log2 < 1000000 ∨ L2.CMul i j) ∧ Q (.int (i * j)) S
  | .tup u, .int k => (k = 1 ∧ Q (.tup u) S) ∨ (k = 0 ∧ u ≠ [] ∧ Q (.tup []) S) ∨ (u ≠ [] ∧ 2 ≤ k ∧ k ≤ 1000 ∧ u.length ≤ 1000 ∧ Q (.tup (List.replicate k.toNat u).flatten) S)
  | .ref p, .int k => match S p with
    | some (.lst u) => -(2 ^ 63) ≤ k ∧ k < 2 ^ 63 ∧ u.length * k.toNat ≤ sizeLine ∧ pNew (.lst (List.replicate k.toNat u).flatten) S Q
    | _ => False
  | _, _ => False
def pBin (o : Operator) (x y : D) (S : Sto) (Q : Post) : Prop := match o with
  | .Add => pAdd x y S Q
  | .Mult => pMul x y S Q
  | .Sub => ∃ i j, x = .int i ∧ y = .int j ∧ Q (.int (i - j)) S
  | .Mod => ∃ i j, x = .int i ∧ y = .int j ∧ 0 < j ∧ Q (.int (i % j)) S
  | .FloorDiv => ∃ i j, x = .int i ∧ y = .int j ∧ (0 < j ∧ j.natAbs.log2 < 9000) ∧ Q (.int (i / j)) S
  | .Pow => ∃ i j, x = .int i ∧ y = .int j ∧ (0 ≤ j ∧ j ≤ 1000000 ∧ i.natAbs < 2 ^ 64) ∧ Q (.int (i ^ j.toNat)) S
  | _ => False

mutual
/-- a value as data -/
inductive Pd (S : Sto) : D → PyData → Prop
  | non : Pd S .non .none
  | bl (b : Bool) : Pd S (.bl b) (.bool b)
  | int (i : Int) : Pd S (.int i) (.int i)
  | str (x : Str) : Pd S (.str x) (.str x)
  | tup {ds : List D} {ps : List PyData} : Pds S ds ps → Pd S (.tup ds) (.tuple ps)
  | lst {a : Addr} {ds : List D} {ps : List PyData} : S a = some (.lst ds) → Pds S ds ps → Pd S (.ref a) (.list ps)
inductive Pds (S : Sto) : List D → List PyData → Prop
  | nil : Pds S [] []
  | cons {d : D} {ds : List D} {p : PyData} {ps : List PyData} : Pd S d p → Pds S ds ps → Pds S (d :: ds) (p :: ps)
end
/-- a key as data -/
def keyP : L2.Key → PyData
  | .inl i => .int i
  | .inr x => .str x
mutual
/-- a value as data, dicts among it (what repr shows) -/
inductive Psh (S : Sto) : D → PyData → Prop
  | non : Psh S .non .none
  | bl (b : Bool) : Psh S (.bl b) (.bool b)
  | int (i : Int) : Psh S (.int i) (.int i)
  | str (x : Str) : Psh S (.str x) (.str x)
  | tup {ds : List D} {ps : List PyData} : Prs S ds ps → Psh S (.tup ds) (.tuple ps)
  | lst {a : Addr} {ds : List D} {ps : List PyData} : S a = some (.lst ds) → Prs S ds ps → Psh S (.ref a) (.list ps)
  | dic {a : Addr} {kvs : List (L2.Key × D)} {ps : List PyData} : (S a = some (.dic kvs) ∨ S a = some (.lck kvs)) → Prs S (kvs.map (·.2)) ps → Psh S (.ref a) (.dict ((kvs.map fun kv => keyP kv.1).zip ps))
inductive Prs (S : Sto) : List D → List PyData → Prop
  | nil : Prs S [] []
  | cons {d : D} {ds : List D} {p : PyData} {ps : List PyData} : Psh S d p → Prs S ds ps → Prs S (d :: ds) (p :: ps)
end
/-- a scalar -/
def D.flat : D → Bool
  | .non | .bl _ | .int _ | .str _ => true
  | _ => false
def D.toV : D → L2.V
  | .non => .non
  | .bl b => .bl b
  | .int i => .int i
  | .str x => .str x
  | _ => .non
/-- what == tells apart as it stands -/
def scalD : D → D → Bool
  | .non, .non => true | .non, .int _ => true | .int _, .non => true | .non, .bl _ => true | .bl _, .non => true | .non, .str _ => true | .str _, .non => true
  | .int _, .int _ => true | .bl _, .bl _ => true | .str _, .str _ => true
  | .int _, .str _ => true | .str _, .int _ => true | .bl _, .str _ => true | .str _, .bl _ => true
  | _, _ => false
def pEq (x y : D) (S : Sto) (Q : Bool → Prop) : Prop := (scalD x y = true ∧ Q (decide (x.toV = y.toV))) ∨ ∃ p q, Pd S x p ∧ Pd S y q ∧ SeqAt.shaped p = true ∧ SeqAt.shaped q = true ∧ Q (PyData.eqv p q)
def pInL (x : D) (ys : List D) (S : Sto) (Q : Bool → Prop) : Prop :=
  (x.flat = true ∧ ys.all D.flat = true ∧ Q (ys.any fun y => L2.eqV y.toV x.toV)) ∨
  ∃ p ps, Pd S x p ∧ Pds S ys ps ∧ SeqAt.shaped p = true ∧ SeqAt.shaped (.list ps) = true ∧ Q (ps.any fun z => PyData.eqv z p)
def keyOf : D → Option L2.Key
  | .int i => some (.inl i)
  | .str x => some (.inr x)
  | _ => none
def kD : L2.Key → D
  | .inl i => .int i
  | .inr x => .str x
/-! tables -/
section
variable {κ : Type} [DecidableEq κ]
def getK (kvs : List (κ × D)) (k : κ) : Option D := (kvs.find? fun kv => decide (kv.1 = k)).map (·.2)
def putD (kvs : List (κ × D)) (k : κ) (v : D) : List (κ × D) :=
  if (kvs.any fun kv => decide (kv.1 = k)) = true then kvs.map (fun kv => if kv.1 = k then (kv.1, v) else kv) else kvs ++ [(k, v)]
end
def mergeD (kvs more : List (L2.Key × D)) : List (L2.Key × D) := more.foldl (fun acc kv => putD acc kv.1 kv.2) kvs
/-- keys and values in turn -/
def pairsOf : List D → Option (List (L2.Key × D))
  | [] => some []
  | k :: v :: r => match keyOf k, pairsOf r with
    | some k, some ps => some ((k, v) :: ps)
    | _, _ => none
  | _ => none
/-- pairs, laid out -/
def tupP : List D → Option (List D)
  | [] => some []
  | x :: r => match x, tupP r with
    | .tup [k, v], some l => some (k :: v :: l)
    | _, _ => none
/-- what a dict holds at a key -/
def dGet (S : Sto) (a : Addr) (i : D) (R : Option D → Prop) : Prop := match S a with
  | some (.dic kvs) => ∃ k, keyOf i = some k ∧ R (getK kvs k)
  | some (.lck kvs) => ∃ k, keyOf i = some k ∧ R (getK kvs k)
  | _ => False
def isD (x : D) (S : Sto) : Prop := match x with
  | .ref a => match S a with
    | some (.dic _) => True
    | some (.lck _) => True
    | _ => False
  | _ => False
def pIn (x y : D) (S : Sto) (Q : Bool → Prop) : Prop := match y with
  | .str z => ∃ u, x = .str u ∧ Q (!(Builtin.Str.occurrences z u 0 z.length 1).isEmpty)
  | .tup ys => x.flat = true ∧ ys.all D.flat = true ∧ Q (ys.any fun y => L2.eqV y.toV x.toV)
  | .ref a => match S a with
    | some (.lst ys) => pInL x ys S Q
    | _ => dGet S a x fun o => Q o.isSome
  | _ => False
def pCmp (o : CmpOp) (x y : D) (S : Sto) (Q : Bool → Prop) : Prop := match o with
  | .Eq => pEq x y S Q
  | .NotEq => pEq x y S fun b => Q (!b)
  | .Lt => ∃ i j, x = .int i ∧ y = .int j ∧ Q (decide (i < j))
  | .LtE => ∃ i j, x = .int i ∧ y = .int j ∧ Q (decide (i ≤ j))
  | .Gt => ∃ i j, x = .int i ∧ y = .int j ∧ Q (decide (j < i))
  | .GtE => ∃ i j, x = .int i ∧ y = .int j ∧ Q (decide (j ≤ i))
  | .Is => y = .non ∧ Q (match x with | .non => true | _ => false)
  | .IsNot => y = .non ∧ Q (match x with | .non => false | _ => true)
  | .In => pIn x y S Q
  | .NotIn => pIn x y S fun b => Q (!b)

/-! ### tests, types, indices -/
def pTru (x : D) (S : Sto) (Q : Bool → Prop) : Prop := match x with
  | .non => Q false
  | .bl b => Q b
  | .int i => Q (i != 0)
  | .str u => u.length ≤ sizeLine ∧ Q ((u.length : Int) != 0)
  | .tup u => Q (!u.isEmpty)
  | .scr u => Q (!u.isEmpty)
  | .ref a => match S a with
    | some (.lst u) => Q (!u.isEmpty)
    | some (.dic u) => Q (!u.isEmpty)
    | _ => False
def tyOf (x : D) (S : Sto) : Option String := match x with
  | .non => some "NoneType"
  | .bl _ => some "bool"
  | .int _ => some "int"
  | .str _ => some "str"
  | .tup _ => some "tuple"
  | .scr _ => some "list"
  | .ref a => match S a with
    | some (.lst _) => some "list"
    | some (.dic _) => some "dict"
    | some (.lck _) => some "dict"
    | none => none
def Ty.name : Ty → String
  | .int => "int" | .bool => "bool" | .str => "str" | .tuple => "tuple" | .list => "list" | .dict => "dict"
def isTy (s : String) (t : Ty) : Bool := s == t.name || (s == "bool" && t == .int)
def pIsi (x : D) (t : Ty) (S : Sto) (Q : Bool → Prop) : Prop := match tyOf x S with
  | some s => Q (isTy s t)
  | none => False
def pIx (x i : D) (S : Sto) (Q : Post) : Prop := match x with
  | .tup u => ∃ k d, i = .int k ∧ L2.atI u k = some d ∧ Q d S
  | .scr u => ∃ k d, i = .int k ∧ L2.atI u k = some d ∧ Q (.int d) S
  | .str z => ∃ k c, i = .int k ∧ z.length ≤ sizeLine ∧ L2.atI z.cps.toList k = some c ∧ Q (.str ⟨#[c]⟩) S
  | .ref a => match S a with
    | some (.lst u) => ∃ k d, i = .int k ∧ L2.atI u k = some d ∧ Q d S
    | _ => dGet S a i fun o => ∃ d, o = some d ∧ Q d S
  | _ => False
def cutD {α : Type} (xs : List α) (lo hi : Option Int) : List α := (xs.drop (HT.sIx xs.length 0 lo)).take (HT.sIx xs.length xs.length hi - HT.sIx xs.length 0 lo)
def pSl (x : D) (lo hi : Option Int) (S : Sto) (Q : Post) : Prop := match x with
  | .tup u => Q (.tup (cutD u lo hi)) S
  | .scr u => pNew (.lst ((cutD u lo hi).map .int)) S Q
  | .str z => z.length ≤ sizeLine ∧ Q (.str (L2.cutS z lo hi)) S
  | .ref a => match S a with
    | some (.lst u) => pNew (.lst (cutD u lo hi)) S Q
    | _ => False
  | _ => False

/-! ### built-in functions -/
def seqOf (x : D) (S : Sto) : Option (List D) := match x with
  | .tup u => some u
  | .scr u => some (u.map .int)
  | .ref a => match S a with
    | some (.lst u) => some u
    | _ => none
  | _ => none
def intsOf : List D → Option (List Int)
  | [] => some []
  | .int i :: r => (intsOf r).map (i :: ·)
  | _ :: _ => none
def blsOf : List D → Option (List Bool)
  | [] => some []
  | .bl b :: r => (blsOf r).map (b :: ·)
  | _ :: _ => none
def pLen (x : D) (S : Sto) (Q : Post) : Prop := match x with
  | .str z => z.length ≤ sizeLine ∧ Q (.int z.length) S
  | .ref a => match S a with
    | some (.dic u) => Q (.int u.length) S
    | some (.lst u) => Q (.int u.length) S
    | some (.lck u) => Q (.int u.length) S
    | _ => False
  | .tup u => Q (.int u.length) S
  | .scr u => Q (.int u.length) S
  | _ => False
/-- one of each, in the order of their first -/
def dedup {α : Type} [DecidableEq α] (l : List α) : List α := l.foldl (fun a x => if x ∈ a then a else a ++ [x]) []
def strsOf : List D → Option (List Str)
  | [] => some []
  | .str i :: r => (strsOf r).map (i :: ·)
  | _ :: _ => none
/-- what list() and sorted() of a thing walk -/
def walkOf (x : D) (S : Sto) : Option (List D) := match x with
  | .ref a => match S a with
    | some (.dic kvs) => some (kvs.map fun kv => kD kv.1)
    | some (.lck kvs) => some (kvs.map fun kv => kD kv.1)
    | _ => seqOf x S
  | _ => seqOf x S
def pB (f : Bt) (xs : List D) (S : Sto) (Q : Post) : Prop := match f, xs with
  | .len, [x] => pLen x S Q
  | .int, [.int i] => Q (.int i) S
  | .int, [.bl b] => Q (.int (if b then 1 else 0)) S
  | .abs, [.int i] => Q (.int (if i < 0 then -i else i)) S
  | .str, [.int i] => i.natAbs.log2 < 1920 ∧ Q (.str (toString i)) S
  | .max, [.int i, .int j] => Q (.int (if j > i then j else i)) S
  | .min, [.int i, .int j] => Q (.int (if j < i then j else i)) S
  | .tuple, [x] => ∃ u, seqOf x S = some u ∧ Q (.tup u) S
  | .list, [x] => ∃ u, walkOf x S = some u ∧ pNew (.lst u) S Q
  | .sorted, [.ref a] => ∃ u, walkOf (.ref a) S = some u ∧ ((∃ ns, intsOf u = some ns ∧ ((∃ v, S a = some (.lst v)) ∨ ns.length < 64) ∧ ∀ ms : List Int, ms.Perm ns → ms.Pairwise (· ≤ ·) → pNew (.lst (ms.map .int)) S Q) ∨
      ∃ ns, strsOf u = some ns ∧ ns.length < 64 ∧ ∀ ms : List Str, ms.Perm ns → PyProof.Rows.sortedS ms = true → pNew (.lst (ms.map .str)) S Q)
  | .dict, [.ref a] => match S a with
    | some (.dic kvs) => pNew (.dic kvs) S Q
    | some (.lck kvs) => pNew (.dic kvs) S Q
    | some (.lst u) => ∃ l ps, tupP u = some l ∧ pairsOf l = some ps ∧ pNew (.dic (mergeD [] ps)) S Q
    | _ => False
  | .sum, [.ref a] => ∃ u ns, S a = some (.lst u) ∧ intsOf u = some ns ∧ Q (.int ns.sum) S
  | .max, [.ref a] => ∃ u ns m, S a = some (.lst u) ∧ intsOf u = some ns ∧ (m ∈ ns ∧ ∀ y, y ∈ ns → y ≤ m) ∧ Q (.int m) S
  | .min, [.ref a] => ∃ u ns m, S a = some (.lst u) ∧ intsOf u = some ns ∧ (m ∈ ns ∧ ∀ y, y ∈ ns → m ≤ y) ∧ Q (.int m) S
  | .any, [.ref a] => ∃ u bs, S a = some (.lst u) ∧ blsOf u = some bs ∧ Q (.bl (bs.any id)) S
  | .all, [.ref a] => ∃ u bs, S a = some (.lst u) ∧ blsOf u = some bs ∧ Q (.bl (bs.all id)) S
  | .repr, [x] => ∃ p, Psh S x p ∧ p.showable = true ∧ p.depth ≤ 40 ∧ p.shown.length ≤ sizeLine ∧ Q (.str p.shown) S
  | _, _ => False
/-! ### methods -/
def pM (m : Mt) (x : D) (xs : List D) (S : Sto) (Q : Post) : Prop := match m, x, xs with
  | .append, .ref a, [y] => match S a with
    | some (.lst u) => u.length < sizeLine ∧ Q .non (S.put a (.lst (u ++ [y])))
    | _ => False
  | .extend, .ref a, [.ref b] => match S a, S b with
    | some (.lst u), some (.lst v) => u.length + v.length ≤ sizeLine ∧ Q .non (S.put a (.lst (u ++ v)))
    | _, _ => False
  | .pop, .ref a, [] => match S a with
    | some (.lst u) => ∃ y, u[u.length - 1]? = some y ∧ Q y (S.put a (.lst u.dropLast))
    | _ => False
  | .index, .ref a, [y] => match S a with
    | some (.lst u) => ∃ j z, u[j]? = some z ∧ ((y.flat = true ∧ u.all D.flat = true ∧ L2.eqV z.toV y.toV = true ∧ ∀ m z', m < j → u[m]? = some z' → L2.eqV z'.toV y.toV = false) ∨
        ∃ p ps q, Pd S y p ∧ Pds S u ps ∧ SeqAt.shaped p = true ∧ SeqAt.shaped (.list ps) = true ∧ ps[j]? = some q ∧ PyData.eqv q p = true ∧ ∀ m q', m < j → ps[m]? = some q' → PyData.eqv q' p = false) ∧ Q (.int (j : Nat)) S
    | _ => False
  | _, _, _ => False
/-- the receiver's type -/
def mTy (m : Mt) (x : D) (S : Sto) : Prop := match m, x with
  | .append, .ref a => ∃ u, S a = some (.lst u)
  | .extend, .ref a => ∃ u, S a = some (.lst u)
  | .pop, .ref a => ∃ u, S a = some (.lst u)
  | .index, .ref a => ∃ u, S a = some (.lst u)
  | _, _ => False
def pSet (x i y : D) (S : Sto) (Q : Sto → Prop) : Prop := match x with
  | .ref a => match S a with
    | some (.lst u) => ∃ k j, i = .int k ∧ L2.ixN u.length k = some j ∧ Q (S.put a (.lst (u.set j y)))
    | some (.dic kvs) => ∃ k, keyOf i = some k ∧ kvs.length < sizeLine ∧ Q (S.put a (.dic (putD kvs k y)))
    | _ => False
  | _ => False

/-! ### targets, loops -/
def setAll : List Nat → List D → Sl → Sl
  | i :: is, x :: xs, σ => setAll is xs (σ.set i (some x))
  | _, _, σ => σ
def wpTg (t : Tg) (x : D) (σ : Sl) (Q : Sl → Prop) : Prop := match t, x with
  | .one i, x => Q (σ.set i (some x))
  | .tup is, .tup xs => xs.length = is.length ∧ Q (setAll is xs σ)
  | _, _ => False
def wipeD (σ : Sl) : List Nat → Sl
  | [] => σ
  | v :: vs => (wipeD σ vs).set v none
/-- the turns of a comprehension -/
def wpLC (chk : Sto → Prop) (el : D → Sto → (Option D → Sto → Prop) → Prop) : List D → List D → Sto → (List D → Sto → Prop) → Prop
  | [], acc, S, Q => chk S ∧ Q acc S
  | x :: xs, acc, S, Q => chk S ∧ el x S fun r S' => match r with
    | some y => acc.length < sizeLine ∧ wpLC chk el xs (acc ++ [y]) S' Q
    | none => wpLC chk el xs acc S' Q
/-- the turns of a dict comprehension -/
def wpDC (chk : Sto → Prop) (el : D → Sto → (Option (D × D) → Sto → Prop) → Prop) : List D → List (L2.Key × D) → Sto → (List (L2.Key × D) → Sto → Prop) → Prop
  | [], acc, S, Q => chk S ∧ Q acc S
  | x :: xs, acc, S, Q => chk S ∧ el x S fun r S' => match r with
    | some (kd, y) => ∃ k, keyOf kd = some k ∧ acc.length < sizeLine ∧ wpDC chk el xs (putD acc k y) S' Q
    | none => wpDC chk el xs acc S' Q
/-- the turns of a for -/
def wpFor (chk : Sto → Prop) (body : D → En → Sl → Sto → Prop) : List D → En → Sl → Sto → Prop
  | [], N, σ, S => chk S ∧ N.nx σ S
  | x :: xs, N, σ, S => chk S ∧ body x { N with nx := wpFor chk body xs N, ct := wpFor chk body xs N, bk := N.nx } σ S
/-- what is walked: its items, and what must stand at each turn -/
def pIt (x : D) (S : Sto) (Q : List D → (Sto → Prop) → Prop) : Prop := match x with
  | .tup u => Q u fun _ => True
  | .scr u => Q (u.map .int) fun _ => True
  | .str z => Q (z.cps.toList.map fun c => .str ⟨#[c]⟩) fun _ => True
  | .ref a => match S a with
    | some (.lst u) => Q u fun S => S a = some (.lst u)
    | some (.lck kvs) => Q (kvs.map fun kv => kD kv.1) fun S => S a = some (.lck kvs)
    | _ => False
  | _ => False
def rgOf (lo hi : Int) : List D := (List.range (hi - lo).toNat).map fun (k : Nat) => D.int (lo + (k : Int))
def small (i : Int) : Prop := -(2 ^ 62) ≤ i ∧ i < 2 ^ 62
def pItK (k : Ik) (xs : List D) (S : Sto) (Q : List D → (Sto → Prop) → Prop) : Prop := match k, xs with
  | .val, [x] => (∀ a kvs, x = .ref a → S a ≠ some (.lck kvs)) ∧ pIt x S Q
  | .nam, [x] => pIt x S Q
  | .rng, [.int j] => small j ∧ Q (rgOf 0 j) fun _ => True
  | .rng, [.int i, .int j] => (small i ∧ small j) ∧ Q (rgOf i j) fun _ => True
  | .zip, [.tup u, .tup v] => Q ((u.zip v).map fun p => .tup [p.1, p.2]) fun _ => True
  | .zip, [.ref a, .ref b] => match S a, S b with
    | some (.lst u), some (.lst v) => Q ((u.zip v).map fun p => .tup [p.1, p.2]) fun S => S a = some (.lst u) ∧ S b = some (.lst v)
    | _, _ => False
  | _, _ => False
def rgArgs : List D → Option (Int × Int)
  | [.int j] => some (0, j)
  | [.int i, .int j] => some (i, j)
  | _ => none
def partOf : List D → Option (Option Int)
  | [] => some none
  | [.int i] => some (some i)
  | _ => none

/-- while it is walked, a dict is locked -/
def lockE (k : Ik) (xs : List D) (S : Sto) (Q : Post) (P : Sto → Post → Prop) : Prop := match k, xs with
  | .nam, [.ref a] => match S a with
    | some (.dic kvs) => P (S.put a (.lck kvs)) fun d S1 => S1 a = some (.lck kvs) ∧ Q d (S1.put a (.dic kvs))
    | _ => P S Q
  | _, _ => P S Q
def lockN (a : Addr) (kvs : List (L2.Key × D)) (N : En) : En :=
  { nx := fun σ1 S1 => S1 a = some (.lck kvs) ∧ N.nx σ1 (S1.put a (.dic kvs)), rt := fun d S1 => S1 a = some (.lck kvs) ∧ N.rt d (S1.put a (.dic kvs)), bk := fun σ1 S1 => S1 a = some (.lck kvs) ∧ N.bk σ1 (S1.put a (.dic kvs)),
    ct := fun σ1 S1 => S1 a = some (.lck kvs) ∧ N.ct σ1 (S1.put a (.dic kvs)), ex := N.ex }
def lockS (k : Ik) (xs : List D) (S : Sto) (N : En) (P : Sto → En → Prop) : Prop := match k, xs with
  | .nam, [.ref a] => match S a with
    | some (.dic kvs) => P (S.put a (.lck kvs)) (lockN a kvs N)
    | _ => P S N
  | _, _ => P S N
def pZip (x y : D) (S : Sto) (Q : List D → Prop) : Prop := match x, y with
  | .tup u, .tup v => u.length = v.length ∧ Q ((u.zip v).map fun p => .tup [p.1, p.2])
  | _, _ => False
def pMx (mx : Bool) (x y : D) (S : Sto) (Q : Post) : Prop := ∃ ad u ns, x = .ref ad ∧ S ad = some (.lst u) ∧ intsOf u = some ns ∧ (ns = [] → Q y S) ∧ ∀ m : Int, m ∈ ns → (∀ z, z ∈ ns → if mx = true then z ≤ m else m ≤ z) → Q (.int m) S
def pJoin (x y : D) (S : Sto) (Q : Post) : Prop := ∃ z u ys, x = .str z ∧ seqOf y S = some u ∧ strsOf u = some ys ∧ (ys.map (·.length)).sum + ys.length * z.length ≤ 16777216 ∧ Q (.str (Txt.join z ys)) S
def pFmt (x : D) (S : Sto) (Q : Post) : Prop := (∃ y : Str, x = .str y ∧ y.length ≤ sizeLine ∧ Q (.str y) S) ∨ ∃ i : Int, x = .int i ∧ i.natAbs.log2 < 1920 ∧ Q (.str (toString i)) S
mutual
def wpE (W : Callee) (G : Str → Option Str) : E → Sl → Sto → XPost → Post → Prop
  | .non, _, S, _, Q => Q .non S
  | .bl b, _, S, _, Q => Q (.bl b) S
  | .int i, _, S, _, Q => Q (.int i) S
  | .str x, _, S, _, Q => Q (.str x) S
  | .v i, σ, S, _, Q => ∃ d, σ[i]? = some (some d) ∧ Q d S
  | .g x, _, S, _, Q => ∃ z, G x = some z ∧ Q (.str z) S
  | .tup es, σ, S, X, Q => wpEs W G es σ S X fun ds S1 => Q (.tup ds) S1
  | .lst es, σ, S, X, Q => wpEs W G es σ S X fun ds S1 => pNew (.lst ds) S1 Q
  | .dnew, _, S, _, Q => pNew (.dic []) S Q
  | .bin o a b, σ, S, X, Q => wpE W G a σ S X fun x S1 => wpE W G b σ S1 X fun y S2 => pBin o x y S2 Q
  | .neg a, σ, S, X, Q => wpE W G a σ S X fun x S1 => ∃ i, x = .int i ∧ Q (.int (-i)) S1
  | .not a, σ, S, X, Q => wpE W G a σ S X fun x S1 => ∃ c, x = .bl c ∧ Q (.bl (!c)) S1
  | .and a b, σ, S, X, Q => wpE W G a σ S X fun x S1 => ∃ c, x = .bl c ∧ if c = true then wpE W G b σ S1 X Q else Q (.bl false) S1
  | .or a b, σ, S, X, Q => wpE W G a σ S X fun x S1 => ∃ c, x = .bl c ∧ if c = true then Q (.bl true) S1 else wpE W G b σ S1 X Q
  | .tru a, σ, S, X, Q => wpE W G a σ S X fun x S1 => pTru x S1 fun b => Q (.bl b) S1
  | .cmp o a b, σ, S, X, Q => wpE W G a σ S X fun x S1 => wpE W G b σ S1 X fun y S2 => pCmp o x y S2 fun c => Q (.bl c) S2
  | .cmp2 o p a b c, σ, S, X, Q => wpE W G a σ S X fun x S1 => wpE W G b σ S1 X fun y S2 => pCmp o x y S2 fun k =>
      if k = true then wpE W G c σ S2 X fun z S3 => pCmp p y z S3 fun k' => Q (.bl k') S3 else Q (.bl false) S2
  | .ite c a b, σ, S, X, Q => wpE W G c σ S X fun x S1 => ∃ k, x = .bl k ∧ if k = true then wpE W G a σ S1 X Q else wpE W G b σ S1 X Q
  | .call f es, σ, S, X, Q => wpEs W G es σ S X fun ds S1 => W f ds S1 X Q
  | .blt f es, σ, S, X, Q => wpEs W G es σ S X fun ds S1 => pB f ds S1 Q
  | .isi a t, σ, S, X, Q => wpE W G a σ S X fun x S1 => pIsi x t S1 fun b => Q (.bl b) S1
  | .mth m o es, σ, S, X, Q => wpE W G o σ S X fun x S1 => mTy m x S1 ∧ wpEs W G es σ S1 X fun ds S2 => pM m x ds S2 Q
  | .ix a i, σ, S, X, Q => wpE W G a σ S X fun x S1 => wpE W G i σ S1 X fun y S2 => pIx x y S2 Q
  | .sl a lo hi, σ, S, X, Q => wpE W G a σ S X fun x S1 => wpEs W G lo σ S1 X fun l S2 => ∃ i, partOf l = some i ∧ wpEs W G hi σ S2 X fun h S3 => ∃ j, partOf h = some j ∧ pSl x i j S3 Q
  | .lc own t k it c elt, σ, S, X, Q => wpEs W G it σ S X fun xs S0 => lockE k xs S0 Q fun S1 Q => pItK k xs S1 fun items chk =>
      wpLC chk (fun x S2 R => wpTg t x (wipeD σ own) fun σ2 => wpE W G c σ2 S2 X fun d S3 => ∃ b, d = .bl b ∧ if b = true then wpE W G elt σ2 S3 X (fun y S4 => R (some y) S4) else R none S3) items [] S1
        fun row S5 => pNew (.lst row) S5 Q
  | .dlit es, σ, S, X, Q => wpEs W G es σ S X fun ds S1 => ∃ ps, pairsOf ds = some ps ∧ ps.length ≤ 15 ∧ pNew (.dic (mergeD [] ps)) S1 Q
  | .dc own t k it c kx vx, σ, S, X, Q => wpEs W G it σ S X fun xs S0 => lockE k xs S0 Q fun S1 Q => pItK k xs S1 fun items chk =>
      wpDC chk (fun x S2 R => wpTg t x (wipeD σ own) fun σ2 => wpE W G c σ2 S2 X fun d S3 => ∃ b, d = .bl b ∧ if b = true then wpE W G kx σ2 S3 X (fun y S4 => wpE W G vx σ2 S4 X fun z S5 => R (some (y, z)) S5) else R none S3) items [] S1
        fun kvs S5 => pNew (.dic kvs) S5 Q
  | .dget o k d, σ, S, X, Q => wpE W G o σ S X fun x S1 => isD x S1 ∧ wpE W G k σ S1 X fun y S2 => wpEs W G d σ S2 X fun ds S3 => ∃ a, x = .ref a ∧ dGet S3 a y fun r => match ds with
      | [] => Q (r.getD .non) S3
      | [z] => Q (r.getD z) S3
      | _ => False
  | .dsd o k d, σ, S, X, Q => wpE W G o σ S X fun x S1 => isD x S1 ∧ wpE W G k σ S1 X fun y S2 => wpE W G d σ S2 X fun z S3 => ∃ a kvs key, x = .ref a ∧ S3 a = some (.dic kvs) ∧ keyOf y = some key ∧ kvs.length < sizeLine ∧
      (∀ v, getK kvs key = some v → Q v S3) ∧ (getK kvs key = none → Q z (S3.put a (.dic (putD kvs key z))))
  | .lrg tp es, σ, S, X, Q => wpEs W G es σ S X fun xs S1 => ∃ ij, rgArgs xs = some ij ∧ ((small ij.1 ∧ small ij.2) ∧ (ij.2 - ij.1).toNat ≤ sizeLine) ∧ if tp = true then Q (.tup (rgOf ij.1 ij.2)) S1 else pNew (.lst (rgOf ij.1 ij.2)) S1 Q
  | .lset a, σ, S, X, Q => wpE W G a σ S X fun x S1 => (∃ ad u ns, x = .ref ad ∧ S1 ad = some (.lst u) ∧ intsOf u = some ns ∧ ns.length ≤ 4000 ∧ Q (.int (dedup ns).length) S1) ∨
      ∃ u ws, seqOf x S1 = some u ∧ strsOf u = some ws ∧ ws.length ≤ 4000 ∧ Q (.int (dedup ws).length) S1
  | .mxd mx a d, σ, S, X, Q => wpE W G a σ S X fun x S1 => wpE W G d σ S1 X fun y S2 => pMx mx x y S2 Q
  | .lzip a b, σ, S, X, Q => wpE W G a σ S X fun x S1 => wpE W G b σ S1 X fun y S2 => pZip x y S2 fun u => u.length ≤ sizeLine ∧ pNew (.lst u) S2 Q
  | .join s a, σ, S, X, Q => wpE W G s σ S X fun x S1 => (∃ z, x = .str z) ∧ wpE W G a σ S1 X fun y S2 => pJoin x y S2 Q
  | .fst es, σ, S, X, Q => wpJs W G es ⟨#[]⟩ σ S X fun z S1 => Q (.str z) S1
  | .fmt e, σ, S, X, Q => wpE W G e σ S X fun x S1 => pFmt x S1 Q
def wpJs (W : Callee) (G : Str → Option Str) : List E → Str → Sl → Sto → XPost → (Str → Sto → Prop) → Prop
  | [], acc, _, S, _, Q => Q acc S
  | e :: es, acc, σ, S, X, Q => wpE W G e σ S X fun d S1 => ∃ y, d = .str y ∧ (acc ++ y).length ≤ sizeLine ∧ wpJs W G es (acc ++ y) σ S1 X Q
def wpEs (W : Callee) (G : Str → Option Str) : List E → Sl → Sto → XPost → (List D → Sto → Prop) → Prop
  | [], _, S, _, Q => Q [] S
  | e :: es, σ, S, X, Q => wpE W G e σ S X fun d S1 => wpEs W G es σ S1 X fun ds S2 => Q (d :: ds) S2
end
/-! ### statements -/
def wpWhile (test : Sl → Sto → (Bool → Sto → Prop) → Prop) (body : En → Sl → Sto → Prop) (N : En) (σ : Sl) (S : Sto) : Prop :=
  ∃ I : Nat → Sl → Sto → Prop, (∃ m, I m σ S) ∧ ∀ m σ S, I m σ S → test σ S fun b S1 =>
    if b = true then body { N with nx := fun σ' S' => ∃ m', m' < m ∧ I m' σ' S', ct := fun σ' S' => ∃ m', m' < m ∧ I m' σ' S', bk := N.nx } σ S1 else N.nx σ S1
/-- name op= e, of whole numbers -/
def pAug (o : Operator) (x y : D) (Q : D → Prop) : Prop := match o with
  | .Add => ∃ i j, x = .int i ∧ y = .int j ∧ Q (.int (i + j))
  | .Sub => ∃ i j, x = .int i ∧ y = .int j ∧ Q (.int (i - j))
  | _ => False
/-- what a raise hands over: names and constants alone -/
def plainOf : E → Sl → Option D
  | .v i, σ => (σ[i]?).join
  | .int i, _ => some (.int i)
  | .str x, _ => some (.str x)
  | _, _ => none
def plainsOf : List E → Sl → Option (List D)
  | [], _ => some []
  | e :: es, σ => match plainOf e σ, plainsOf es σ with
    | some d, some ds => some (d :: ds)
    | _, _ => none
mutual
def wpS (W : Callee) (G : Str → Option Str) : Sm → En → Sl → Sto → Prop
  | .asg t e, N, σ, S => wpE W G e σ S N.ex fun d S1 => wpTg t d σ fun σ1 => N.nx σ1 S1
  | .set o i e, N, σ, S => wpE W G e σ S N.ex fun d S1 => wpE W G o σ S1 N.ex fun x S2 => wpE W G i σ S2 N.ex fun y S3 => pSet x y d S3 fun S4 => N.nx σ S4
  | .aug i o e, N, σ, S => ∃ x, σ[i]? = some (some x) ∧ wpE W G e σ S N.ex fun y S1 => pAug o x y fun d => N.nx (σ.set i (some d)) S1
  | .ex e, N, σ, S => wpE W G e σ S N.ex fun _ S1 => N.nx σ S1
  | .ret e, N, σ, S => wpE W G e σ S N.ex N.rt
  | .retN, N, _, S => N.rt .non S
  | .ite c a b, N, σ, S => wpE W G c σ S N.ex fun d S1 => ∃ k, d = .bl k ∧ if k = true then wpB W G a N σ S1 else wpB W G b N σ S1
  | .loop t k it b, N, σ, S => wpEs W G it σ S N.ex fun xs S0 => lockS k xs S0 N fun S1 N => pItK k xs S1 fun items chk => wpFor chk (fun x N' σ' S' => wpTg t x σ' fun σ2 => wpB W G b N' σ2 S') items N σ S1
  | .whl c b, N, σ, S => wpWhile (fun σ S Q => wpE W G c σ S N.ex fun d S1 => ∃ k, d = .bl k ∧ Q k S1) (fun N' σ' S' => wpB W G b N' σ' S') N σ S
  | .brk, N, σ, S => N.bk σ S
  | .cnt, N, σ, S => N.ct σ S
  | .pass, N, σ, S => N.nx σ S
  | .raise x es, N, σ, S => ∃ ds, plainsOf es σ = some ds ∧ N.ex x ds S
def wpB (W : Callee) (G : Str → Option Str) : List Sm → En → Sl → Sto → Prop
  | [], N, σ, S => N.nx σ S
  | s :: r, N, σ, S => wpS W G s { N with nx := wpB W G r N } σ S
end
/-! ### calls, by levels -/
def startD (n : Nat) (ds : List D) : Sl := ds.map some ++ List.replicate (n - ds.length) none
def W (F : Str → Option Fn) (G : Str → Option Str) : Nat → Callee
  | 0 => fun _ _ _ _ _ => False
  | k + 1 => fun f ds S X Q => ∃ fn, F f = some fn ∧ ds.length = fn.ps ∧ wpB (W F G k) G fn.body { nx := fun _ S' => Q .non S', rt := Q, ex := X } (startD fn.n ds) S
end Mp

namespace Mp
open PySem

/-! ## from the model's text to the language -/
def slotOf : List Str → Str → Nat → Option Nat
  | [], _, _ => none
  | y :: r, x, i => if y = x then some i else slotOf r x (i + 1)
/-- a name: a slot, or a name of the module -/
def nameOf (N : List Str) (sc : Scope) (x : Str) : Option (Option Nat) :=
  if x = "__debug__" ∨ x = "__classdict__" ∨ x = "__name__" then none else
  match sc.names.lookup x with
  | some .local => (slotOf N x 0).map some
  | some .cell => (slotOf N x 0).map some
  | some .free => (slotOf N x 0).map some
  | some .globalImplicit => some none
  | _ => none
def isGl (sc : Scope) (x : Str) : Bool := decide (sc.names.lookup x = some .globalImplicit)
def Bt.nm : Bt → Str
  | .len => "len" | .int => "int" | .tuple => "tuple" | .list => "list" | .sum => "sum" | .max => "max" | .min => "min" | .any => "any"
  | .all => "all" | .repr => "repr" | .abs => "abs" | .str => "str" | .dict => "dict" | .sorted => "sorted"
def allBt : List Bt := [.len, .int, .tuple, .list, .sum, .max, .min, .any, .all, .repr, .abs, .str, .dict, .sorted]
def btOf (x : Str) : Option Bt := allBt.find? fun b => decide (x = b.nm)
def Ty.nm : Ty → Str
  | .int => "int" | .bool => "bool" | .str => "str" | .tuple => "tuple" | .list => "list" | .dict => "dict"
def allTy : List Ty := [.int, .bool, .str, .tuple, .list, .dict]
def tyOf? (x : Str) : Option Ty := allTy.find? fun b => decide (x = b.nm)
def Mt.nm : Mt → Str
  | .append => "append" | .extend => "extend" | .pop => "pop" | .get => "get" | .index => "index"
def allMt : List Mt := [.append, .extend, .pop, .index]
def mtOf (x : Str) : Option Mt := allMt.find? fun b => decide (x = b.nm)
/-- the names of the built-ins: no def of the program bears them -/
def bltNames : List Str := ["len", "int", "tuple", "list", "sum", "max", "min", "any", "all", "repr", "abs", "str", "isinstance", "bool", "dict", "range", "zip", "set", "sorted"]
def ownOf (N : List Str) (scope : Scope) : List (Str × Nat) :=
  scope.names.filterMap fun y => if y.2 = .local ∨ y.2 = .cell then (slotOf N y.1 0).map fun i => (y.1, i) else none
def opOk : Operator → Bool
  | .Add | .Sub | .Mult | .Mod | .FloorDiv | .Pow => true
  | _ => false
/-- a name that is stored -/
def storeOf (N : List Str) (sc : Scope) : Expr → Option Nat
  | .Name x _ => match sc.names.lookup x with
    | some .local => slotOf N x 0
    | some .cell => slotOf N x 0
    | _ => none
  | _ => none
def storesOf (N : List Str) (sc : Scope) : List Expr → Option (List Nat)
  | [] => some []
  | e :: es => match storeOf N sc e, storesOf N sc es with
    | some i, some is => some (i :: is)
    | _, _ => none
def trTg (N : List Str) (sc : Scope) : Expr → Option Tg
  | .Tuple es _ _ => (storesOf N sc es).map .tup
  | e => (storeOf N sc e).map .one
def Tg.slots : Tg → List Nat
  | .one i => [i]
  | .tup is => is
/-- a plain subscript -/
def plainIx : Expr → Bool
  | .Slice _ _ _ _ => false
  | _ => true
/-- f(), as a receiver -/
def call0 : Expr → Bool
  | .Call (.Name _ _) [] [] _ => true
  | _ => false
/-- f(range(..)), f(set(..)), f(zip(..)) -/
def inner : List Expr → Option (Str × List Expr)
  | [.Call (.Name g _) as [] _] => if g = "range" ∨ g = "set" ∨ g = "zip" then some (g, as) else none
  | _ => none
/-- what is a text as it stands -/
def isTxt : Expr → Bool
  | .Constant (.str _) _ _ => true
  | .FormattedValue _ _ none _ => true
  | _ => false
def zipOk : Ik → Expr → Bool
  | .zip, .Tuple _ _ _ => true
  | .zip, _ => false
  | _, _ => true
mutual
def trE (N L : List Str) : Nat → Scope → Expr → Option E
  | 0, _, _ => none
  | n + 1, sc, e => match e with
    | .Constant .none _ _ => some .non
    | .Constant (.bool b) _ _ => some (.bl b)
    | .Constant (.int i) _ _ => some (.int i)
    | .Constant (.str x) _ _ => some (.str x)
    | .Name x _ => match nameOf N sc x with
      | some (some i) => some (.v i)
      | some none => some (.g x)
      | none => none
    | .Tuple es _ _ => if es.length ≤ 100 then (trEs N L n sc es).map .tup else none
    | .List es _ => if es.length ≤ 100 then (trEs N L n sc es).map .lst else none
    | .Dict [] [] _ => some .dnew
    | .Dict ks vs _ => if (ks.all (·.isSome) = true ∧ ks.length = vs.length) ∧ ks.length ≤ 15 then (trP N L n sc ks vs).map .dlit else none
    | .BinOp a o b _ => match opOk o, trE N L n sc a, trE N L n sc b with
      | true, some x, some y => some (.bin o x y)
      | _, _, _ => none
    | .UnaryOp .USub a _ => (trE N L n sc a).map .neg
    | .UnaryOp .Not a _ => (trE N L n sc a).map fun x => .not (.tru x)
    | .BoolOp o es _ => trV N L n sc o es
    | .Compare a [o] [b] _ => match behindInMarks o b, trE N L n sc a, trE N L n sc b with
      | false, some x, some y => some (.cmp o x y)
      | _, _, _ => none
    | .Compare a [o, p] [b, c] _ => match behindInMarks p c, trE N L n sc a, trE N L n sc b, trE N L n sc c with
      | false, some x, some y, some z => some (.cmp2 o p x y z)
      | _, _, _, _ => none
    | .IfExp c a b _ => match trT N L n sc c, trE N L n sc a, trE N L n sc b with
      | some x, some y, some z => some (.ite x y z)
      | _, _, _ => none
    | .Call (.Name f _) es [] _ =>
      if isGl sc f = false ∨ f = "__debug__" ∨ f = "__name__" then none else
      match inner es with
      | some (g, as) =>
        if isGl sc g = false then none else
        if g = "range" then (match f == "list" || f == "tuple", as with
          | true, [a] => (trE N L n sc a).map fun x => .lrg (f == "tuple") [x]
          | true, [a, b] => (match trE N L n sc a, trE N L n sc b with
            | some x, some y => some (.lrg (f == "tuple") [x, y])
            | _, _ => none)
          | _, _ => none)
        else if g = "set" then (match f == "len", as with
          | true, [a] => (trE N L n sc a).map .lset
          | _, _ => none)
        else if g = "zip" then (match f == "list", as with
          | true, [a, b] => (match trE N L n sc a, trE N L n sc b with
            | some x, some y => some (.lzip x y)
            | _, _ => none)
          | _, _ => none)
        else none
      | none =>
      if f = "isinstance" then match es with
        | [a, .Name t _] => match isGl sc t, trE N L n sc a, tyOf? t with
          | true, some x, some ty => some (.isi x ty)
          | _, _, _ => none
        | _ => none
      else match btOf f with
      | some b => match es with
        | [] => none
        | e :: r => (trEs N L n sc (e :: r)).map fun l => .blt b l
      | none => if f ∈ bltNames ∨ f ∉ L then none else (trEs N L n sc es).map fun l => .call f l
    | .Call (.Name f _) [a] [⟨some g, b, _⟩] _ =>
      if isGl sc f = false ∨ f ≠ "max" ∨ g ≠ "default" then none else
      match trE N L n sc a, trE N L n sc b with
      | some x, some y => some (.mxd true x y)
      | _, _ => none
    | .JoinedStr es _ => match es.all isTxt, decide (2 ≤ es.length), trEs N L n sc es with
      | true, true, some l => some (.fst l)
      | _, _, _ => none
    | .FormattedValue e (-1) none _ => (trE N L n sc e).map .fmt
    | .Call (.Attribute o m ap) es [] cp =>
      if m = "get" then (match ap.endLine == cp.line && !call0 o, trE N L n sc o, es with
        | true, some x, [k] => (trE N L n sc k).map fun y => .dget x y []
        | true, some x, [k, d] => (match trE N L n sc k, trE N L n sc d with
          | some y, some z => some (.dget x y [z])
          | _, _ => none)
        | _, _, _ => none)
      else if m = "setdefault" then (match ap.endLine == cp.line && !call0 o, trE N L n sc o, es with
        | true, some x, [k, d] => (match trE N L n sc k, trE N L n sc d with
          | some y, some z => some (.dsd x y z)
          | _, _ => none)
        | _, _, _ => none)
      else if m = "join" then (match ap.endLine == cp.line && !call0 o, trE N L n sc o, es with
        | true, some x, [k] => (trE N L n sc k).map fun y => .join x y
        | _, _, _ => none)
      else match ap.endLine == cp.line && !call0 o, mtOf m, trE N L n sc o, trEs N L n sc es with
      | true, some mt, some x, some l => if es.length ≤ 10 then some (.mth mt x l) else none
      | _, _, _, _ => none
    | .Subscript a (.Slice lo hi none _) _ => match trE N L n sc a, trO N L n sc lo, trO N L n sc hi with
      | some x, some l, some h => some (.sl x l h)
      | _, _, _ => none
    | .Subscript a i _ => match plainIx i, trE N L n sc a, trE N L n sc i with
      | true, some x, some y => some (.ix x y)
      | _, _, _ => none
    | .ListComp elt [⟨tg, it, ifs, 0⟩] scope _ =>
      let own := ownOf N scope
      let inn := L2.relS scope sc
      match L2.blkC N sc scope own, trTg N scope tg, trI N L n sc it, trC N L n inn ifs, trE N L n inn elt with
      | true, some t, some (k, l), some c, some x => if t.slots.all (fun i => decide (i ∈ own.map (·.2))) = true then (if zipOk k tg = true then some (.lc (own.map (·.2)) t k l c x) else none) else none
      | _, _, _, _, _ => none
    | .DictComp kx vx [⟨tg, it, ifs, 0⟩] scope _ =>
      let own := ownOf N scope
      let inn := L2.relS scope sc
      match L2.blkC N sc scope own, trTg N scope tg, trI N L n sc it, trC N L n inn ifs, trE N L n inn kx, trE N L n inn vx with
      | true, some t, some (k, l), some c, some x, some y => if t.slots.all (fun i => decide (i ∈ own.map (·.2))) = true then (if zipOk k tg = true then some (.dc (own.map (·.2)) t k l c x y) else none) else none
      | _, _, _, _, _, _ => none
    | _ => none
/-- the pairs of a display -/
def trP (N L : List Str) : Nat → Scope → List (Option Expr) → List Expr → Option (List E)
  | 0, _, _, _ => none
  | n + 1, sc, ks, vs => match ks, vs with
    | [], [] => some []
    | some k :: ks, v :: vs => match trE N L n sc k, trE N L n sc v, trP N L n sc ks vs with
      | some x, some y, some l => some (x :: y :: l)
      | _, _, _ => none
    | _, _ => none
def trV (N L : List Str) : Nat → Scope → BoolOp → List Expr → Option E
  | 0, _, _, _ => none
  | n + 1, sc, o, es => match es with
    | [] => none
    | [a] => trE N L n sc a
    | a :: r => match trE N L n sc a, trV N L n sc o r with
      | some x, some y => some (match o with | .And => .and x y | .Or => .or x y)
      | _, _ => none
def trT (N L : List Str) : Nat → Scope → Expr → Option E
  | 0, _, _ => none
  | n + 1, sc, e => match e with
    | .BoolOp o es _ => trW N L n sc o es
    | .UnaryOp .Not a _ => (trT N L n sc a).map .not
    | .IfExp _ _ _ _ => none
    | .Compare a ops bs p => match ops with
      | [_] => trE N L n sc (.Compare a ops bs p)
      | [_, _] => trE N L n sc (.Compare a ops bs p)
      | _ => none
    | e => (trE N L n sc e).map .tru
def trW (N L : List Str) : Nat → Scope → BoolOp → List Expr → Option E
  | 0, _, _, _ => none
  | n + 1, sc, o, es => match es with
    | [] => none
    | [a] => trT N L n sc a
    | a :: r => match trT N L n sc a, trW N L n sc o r with
      | some x, some y => some (match o with | .And => .and x y | .Or => .or x y)
      | _, _ => none
def trEs (N L : List Str) : Nat → Scope → List Expr → Option (List E)
  | 0, _, _ => none
  | n + 1, sc, es => match es with
    | [] => some []
    | .Starred _ _ :: _ => none
    | e :: r => match trE N L n sc e, trEs N L n sc r with
      | some x, some l => some (x :: l)
      | _, _ => none
def trO (N L : List Str) : Nat → Scope → Option Expr → Option (List E)
  | 0, _, _ => none
  | n + 1, sc, o => match o with
    | none => some []
    | some e => (trE N L n sc e).map fun x => [x]
def trC (N L : List Str) : Nat → Scope → List Expr → Option E
  | 0, _, _ => none
  | n + 1, sc, l => match l with
    | [] => some (.bl true)
    | [c] => trT N L n sc c
    | _ => none
def trI (N L : List Str) : Nat → Scope → Expr → Option (Ik × List E)
  | 0, _, _ => none
  | n + 1, sc, e => match e with
    | .Call (.Name f _) [a] [] _ => if f = "range" then (if isGl sc f = true then (trEs N L n sc [a]).map fun l => (.rng, l) else none) else (trE N L n sc e).map fun x => (.val, [x])
    | .Call (.Name f _) [a, b] [] _ => if f = "range" then (if isGl sc f = true then (trEs N L n sc [a, b]).map fun l => (.rng, l) else none) else if f = "zip" then (if isGl sc f = true then (trEs N L n sc [a, b]).map fun l => (.zip, l) else none) else (trE N L n sc e).map fun x => (.val, [x])
    | .Set _ _ _ => none
    | .Name x p => match nameOf N sc x with
      | some (some i) => (trE N L n sc (.Name x p)).map fun x => (.nam, [.v i])
      | _ => none
    | e => (trE N L n sc e).map fun x => (.val, [x])
end
/-- a comprehension -/
def isLc : Expr → Bool
  | .ListComp _ _ _ _ => true
  | .SetComp _ _ _ _ => true
  | .DictComp _ _ _ _ _ => true
  | _ => false
mutual
def trS (N L : List Str) : Nat → Scope → Stmt → Option Sm
  | 0, _, _ => none
  | n + 1, sc, st => match st with
    | .Assign [.Name y py] (.ListComp elt gs scope p) sp =>
      match storeOf N sc (.Name y py), trE N L n sc (.ListComp elt gs scope p) with
      | some i, some x =>
        -- its name is a plain local, on the comprehension's line, not one of its own names; or it is a cell
        if sc.names.lookup y = some .cell ∨ (scope.names.any fun y' => y'.1 == y && (y'.2 == .local || y'.2 == .cell)) = true ∨
          (sc.names.lookup y = some .local ∧ (py.line == p.line) = true ∧ (p.line == sp.line) = true ∧ (scope.names.any fun y' => y'.1 == y && (y'.2 == .local || y'.2 == .cell)) = false) then some (.asg (.one i) x) else none
      | _, _ => none
    | .Assign [.Name y py] (.DictComp kx vx gs scope p) sp =>
      match storeOf N sc (.Name y py), trE N L n sc (.DictComp kx vx gs scope p) with
      | some i, some x =>
        if sc.names.lookup y = some .cell ∨ (scope.names.any fun y' => y'.1 == y && (y'.2 == .local || y'.2 == .cell)) = true ∨
          (sc.names.lookup y = some .local ∧ (py.line == p.line) = true ∧ (p.line == sp.line) = true ∧ (scope.names.any fun y' => y'.1 == y && (y'.2 == .local || y'.2 == .cell)) = false) then some (.asg (.one i) x) else none
      | _, _ => none
    | .Assign [.Subscript o i _] e _ => match isLc e, plainIx i, trE N L n sc e, trE N L n sc o, trE N L n sc i with
      | false, true, some x, some y, some z => some (.set y z x)
      | _, _, _, _, _ => none
    | .Assign [.Tuple es k p] e _ => match (match e with | .Tuple .. => true | _ => false), isLc e, trTg N sc (.Tuple es k p), trE N L n sc e with
      | false, false, some t, some x => some (.asg t x)
      | _, _, _, _ => none
    | .Assign [.Name y py] e _ => match isLc e, storeOf N sc (.Name y py), trE N L n sc e with
      | false, some i, some x => some (.asg (.one i) x)
      | _, _, _ => none
    | .AugAssign (.Name y py) o e _ => match decide (o = .Add) || decide (o = .Sub), storeOf N sc (.Name y py), trE N L n sc e with
      | true, some i, some x => some (.aug i o x)
      | _, _, _ => none
    | .Expr e _ => match isLc e, trE N L n sc e with
      | false, some x => some (.ex x)
      | _, _ => none
    | .Return none _ => some .retN
    | .Return (some e) _ => (trE N L n sc e).map .ret
    | .If c a b _ => match trT N L n sc c, trB N L n sc a, trB N L n sc b with
      | some x, some y, some z => some (.ite x y z)
      | _, _, _ => none
    | .For tg it b [] _ => match trTg N sc tg, trI N L n sc it, trB N L n sc b with
      | some t, some (k, l), some y => if zipOk k tg = true then some (.loop t k l y) else none
      | _, _, _ => none
    | .While c b [] _ => match trT N L n sc c, trB N L n sc b with
      | some x, some y => some (.whl x y)
      | _, _ => none
    | .Break _ => some .brk
    | .Continue _ => some .cnt
    | .Pass _ => some .pass
    | .Raise (some (.Call (.Name x _) es [] _)) none _ => (trEs N L n sc es).map fun l => .raise x l
    | _ => none
def trB (N L : List Str) : Nat → Scope → List Stmt → Option (List Sm)
  | 0, _, _ => none
  | n + 1, sc, l => match l with
    | [] => some []
    | s :: r => match trS N L n sc s, trB N L n sc r with
      | some x, some y => some (x :: y)
      | _, _ => none
end
/-- the names of a def by slots: the parameters, then what else is local -/
def namesOf (ps : List Str) (sc : Scope) (body : List Str) : List Str := ps ++ body
end Mp

namespace Mp
open PySem L2

/-! ## what stands in the model for a value, a store, the slots -/
/-- the script: known to its object, or an object of the module -/
def ScrAt (K : PySem.W.Frag) (H : Hp) (p : Addr) (xs : List V) : Prop :=
  (∃ o, H p = some (.frz o (.lst xs))) ∨
    ∃ (o : Obj) (its : Array Value) (n : Nat), K.lookup p = some o ∧ o.cls = .type "list" ∧ o.dict = none ∧ o.data = .seq its n ∧ its.size ≤ sizeLine ∧ Vals xs its.toList
theorem ScrAt.sq {K : PySem.W.Frag} {H : Hp} {p : Addr} {xs : List V} (h : ScrAt K H p xs) : SqL K H p xs := h.elim (fun z => .inl (.inr z)) .inr
mutual
inductive RD (K : PySem.W.Frag) (H : Hp) : D → V → Prop
  | non : RD K H .non .non
  | bl (b : Bool) : RD K H (.bl b) (.bl b)
  | int (i : Int) : RD K H (.int i) (.int i)
  | str (x : Str) : RD K H (.str x) (.str x)
  | tup {p : Addr} {ds : List D} {vs : List V} : H p = some (.tup vs) → RDs K H ds vs → RD K H (.tup ds) (.ref p)
  | scr {p : Addr} {ns : List Int} : ScrAt K H p (ns.map V.int) → RD K H (.scr ns) (.ref p)
  | ref (a : Addr) : RD K H (.ref a) (.ref a)
inductive RDs (K : PySem.W.Frag) (H : Hp) : List D → List V → Prop
  | nil : RDs K H [] []
  | cons {d : D} {v : V} {ds : List D} {vs : List V} : RD K H d v → RDs K H ds vs → RDs K H (d :: ds) (v :: vs)
end
def RKv (K : PySem.W.Frag) (H : Hp) : List (Key × D) → List (Key × V) → Prop := Paired fun (p : Key × D) (q : Key × V) => p.1 = q.1 ∧ RD K H p.2 q.2
def RO (K : PySem.W.Frag) (H : Hp) (a : Addr) : Ob → Prop
  | .lst ds => ∃ vs, H a = some (.lst vs) ∧ RDs K H ds vs
  | .dic kvs => ∃ ls, H a = some (.dK ls) ∧ RKv K H kvs ls
  | .lck kvs => ∃ o ls, H a = some (.frz o (.dK ls)) ∧ RKv K H kvs ls
def RS (K : PySem.W.Frag) (S : Sto) (H : Hp) : Prop := ∀ a o, S a = some o → RO K H a o
/-- what the store does not hold stays as it was, and stays outside -/
def Fr (S : Sto) (H : Hp) (S' : Sto) (H' : Hp) : Prop := (∀ b o, S b = none → H b = some o → S' b = none ∧ H' b = some o) ∧ ∀ b kvs, S b = some (.lck kvs) → S' b = some (.lck kvs) ∧ H' b = H b
def RSl (K : PySem.W.Frag) (H : Hp) (σ : Sl) (τ : St) : Prop := σ.length = τ.length ∧ ∀ (i : Nat) (d : D), σ[i]? = some (some d) → ∃ v, τ[i]? = some (some v) ∧ RD K H d v

section
variable {K : PySem.W.Frag} {H H1 H2 H' : Hp} {S S1 S2 S' : Sto}
theorem Fr.refl : Fr S H S H := ⟨fun _ _ h h' => ⟨h, h'⟩, fun _ _ h => ⟨h, rfl⟩⟩
theorem Fr.trans (a : Fr S H S1 H1) (b : Fr S1 H1 S2 H2) : Fr S H S2 H2 := ⟨fun c o h h' => b.1 c o (a.1 c o h h').1 (a.1 c o h h').2, fun c kvs h => ⟨(b.2 c kvs (a.2 c kvs h).1).1, (b.2 c kvs (a.2 c kvs h).1).2.trans (a.2 c kvs h).2⟩⟩
theorem RS.notup (r : RS K S H) {p : Addr} {vs : List V} (h : H p = some (.tup vs)) : S p = none := by
  cases e : S p with
  | none => rfl
  | some o =>
    have q := r p o e
    cases o with
    | lst ds => obtain ⟨_, z, _⟩ := q; rw [h] at z; cases z
    | dic ds => obtain ⟨_, z, _⟩ := q; rw [h] at z; cases z
    | lck ds => obtain ⟨_, _, z, _⟩ := q; rw [h] at z; cases z
theorem RS.nofrz (r : RS K S H) {p : Addr} {o : Obj} {vs : List V} (h : H p = some (.frz o (.lst vs))) : S p = none := by
  cases e : S p with
  | none => rfl
  | some o =>
    have q := r p o e
    cases o with
    | lst ds => obtain ⟨_, z, _⟩ := q; rw [h] at z; cases z
    | dic ds => obtain ⟨_, z, _⟩ := q; rw [h] at z; cases z
    | lck ds => obtain ⟨_, _, z, _⟩ := q; rw [h] at z; cases z
theorem RS.frz (r : RS K S H) {p : Addr} {o : Obj} {u : HO} (h : H p = some (.frz o u)) : S p = none ∨ ∃ kvs, S p = some (.lck kvs) := by
  cases e : S p with
  | none => exact .inl rfl
  | some o =>
    have q := r p o e
    cases o with
    | lst ds => obtain ⟨_, z, _⟩ := q; rw [h] at z; cases z
    | dic ds => obtain ⟨_, z, _⟩ := q; rw [h] at z; cases z
    | lck ds => exact .inr ⟨ds, rfl⟩
theorem RS.fresh (r : RS K S H) {p : Addr} (h : H p = none) : S p = none := by
  cases e : S p with
  | none => rfl
  | some o =>
    have q := r p o e
    cases o with
    | lst ds => obtain ⟨_, z, _⟩ := q; rw [h] at z; cases z
    | dic ds => obtain ⟨_, z, _⟩ := q; rw [h] at z; cases z
    | lck ds => obtain ⟨_, _, z, _⟩ := q; rw [h] at z; cases z
/-- tuples and the script stay -/
def Stay (H H' : Hp) : Prop := (∀ p vs, H p = some (.tup vs) → H' p = some (.tup vs)) ∧ (∀ p o vs, H p = some (.frz o (.lst vs)) → H' p = some (.frz o (.lst vs)))
theorem Fr.stay (f : Fr S H S' H') (r : RS K S H) : Stay H H' := ⟨fun p vs h => (f.1 p _ (r.notup h) h).2, fun p o vs h => (f.1 p _ (r.nofrz h) h).2⟩
mutual
theorem RD.stay (s : Stay H H') : ∀ {d : D} {v : V}, RD K H d v → RD K H' d v
  | _, _, .non => .non
  | _, _, .bl b => .bl b
  | _, _, .int i => .int i
  | _, _, .str x => .str x
  | _, _, .tup h r => .tup (s.1 _ _ h) (RDs.stay s r)
  | _, _, .scr h => .scr (h.elim (fun ⟨o, z⟩ => .inl ⟨o, s.2 _ _ _ z⟩) .inr)
  | _, _, .ref a => .ref a
theorem RDs.stay (s : Stay H H') : ∀ {ds : List D} {vs : List V}, RDs K H ds vs → RDs K H' ds vs
  | _, _, .nil => .nil
  | _, _, .cons a b => .cons (RD.stay s a) (RDs.stay s b)
end
theorem RKv.stay (s : Stay H H') {kvs : List (Key × D)} {ls : List (Key × V)} (r : RKv K H kvs ls) : RKv K H' kvs ls := Paired.mapP r fun _ _ z => ⟨z.1, z.2.stay s⟩
theorem RSl.stay (s : Stay H H') {σ : Sl} {τ : St} (r : RSl K H σ τ) : RSl K H' σ τ := ⟨r.1, fun i d h => let ⟨v, e, q⟩ := r.2 i d h; ⟨v, e, q.stay s⟩⟩
theorem RO.stay (s : Stay H H') {a : Addr} {o : Ob} (e : H' a = H a) (r : RO K H a o) : RO K H' a o := by
  cases o with
  | lst ds => obtain ⟨vs, z, q⟩ := r; exact ⟨vs, e.trans z, q.stay s⟩
  | dic ds => obtain ⟨vs, z, q⟩ := r; exact ⟨vs, e.trans z, q.stay s⟩
  | lck ds => obtain ⟨o, vs, z, q⟩ := r; exact ⟨o, vs, e.trans z, q.stay s⟩
/-- a new object outside the store -/
theorem stay_new {p : Addr} (h : H p = none) (o : HO) : Stay H (upd H p o) := ⟨fun q vs z => by rw [upd_ne (ne_of_none z h)]; exact z, fun q ob vs z => by rw [upd_ne (ne_of_none z h)]; exact z⟩
theorem RS.some_of (r : RS K S H) {a : Addr} {o : Ob} (h : S a = some o) : ∃ u, H a = some u := by
  have q := r a o h
  cases o with
  | lst ds => obtain ⟨vs, z, _⟩ := q; exact ⟨_, z⟩
  | dic ds => obtain ⟨vs, z, _⟩ := q; exact ⟨_, z⟩
  | lck ds => obtain ⟨o, vs, z, _⟩ := q; exact ⟨_, z⟩
theorem RS.out (r : RS K S H) {p : Addr} (h : H p = none) (o : HO) : RS K S (upd H p o) := fun a u e => by
  obtain ⟨w, z⟩ := r.some_of e
  exact (r a u e).stay (stay_new h o) (upd_ne (ne_of_none z h))
theorem Fr.out (r : RS K S H) {p : Addr} (h : H p = none) (o : HO) : Fr S H S (upd H p o) := ⟨fun b u e z => ⟨e, by rw [upd_ne (ne_of_none z h)]; exact z⟩, fun b kvs e => ⟨e, by obtain ⟨u, z⟩ := r.some_of e; rw [upd_ne (ne_of_none z h)]⟩⟩
/-- a new object of the store -/
theorem RS.new (r : RS K S H) {p : Addr} (h : H p = none) {o : HO} {u : Ob} (q : RO K (upd H p o) p u) : RS K (S.put p u) (upd H p o) := fun a w e => by
  by_cases ha : a = p
  · subst ha; rw [put_same] at e; cases e; exact q
  · rw [put_ne ha] at e; exact r.out h o a w e
theorem Fr.new (r : RS K S H) {p : Addr} (h : H p = none) (o : HO) (u : Ob) : Fr S H (S.put p u) (upd H p o) := by
  refine ⟨fun b w e z => ?_, fun b kvs e => ?_⟩
  · have n := ne_of_none z h
    exact ⟨by rw [put_ne n]; exact e, by rw [upd_ne n]; exact z⟩
  · obtain ⟨w, z⟩ := r.some_of e
    have n := ne_of_none z h
    exact ⟨by rw [put_ne n]; exact e, by rw [upd_ne n]⟩
/-- an object of the store is changed -/
theorem stay_set (r : RS K S H) {p : Addr} {u0 : Ob} (e : S p = some u0) (o : HO) : Stay H (upd H p o) :=
  ⟨fun q vs z => by rw [upd_ne (fun c => by subst c; rw [r.notup z] at e; cases e)]; exact z, fun q ob vs z => by rw [upd_ne (fun c => by subst c; rw [r.nofrz z] at e; cases e)]; exact z⟩
theorem RS.set (r : RS K S H) {p : Addr} {u0 : Ob} (e : S p = some u0) {o : HO} {u : Ob} (q : RO K (upd H p o) p u) : RS K (S.put p u) (upd H p o) := fun a w z => by
  by_cases ha : a = p
  · subst ha; rw [put_same] at z; cases z; exact q
  · rw [put_ne ha] at z
    exact (r a w z).stay (stay_set r e o) (upd_ne ha)
theorem Fr.set {p : Addr} {u0 : Ob} (e : S p = some u0) (nl : ∀ kvs, u0 ≠ .lck kvs) (o : HO) (u : Ob) : Fr S H (S.put p u) (upd H p o) := by
  refine ⟨fun b w z y => ?_, fun b kvs z => ?_⟩
  · have n : b ≠ p := fun c => by subst c; rw [e] at z; cases z
    exact ⟨by rw [put_ne n]; exact z, by rw [upd_ne n]; exact y⟩
  · have n : b ≠ p := fun c => by subst c; rw [e] at z; exact nl kvs (Option.some.inj z)
    exact ⟨by rw [put_ne n]; exact z, by rw [upd_ne n]⟩
theorem RS.lst (r : RS K S H) {a : Addr} {ds : List D} (e : S a = some (.lst ds)) : ∃ vs, H a = some (.lst vs) ∧ RDs K H ds vs := r a _ e
theorem RDs.length : ∀ {ds : List D} {vs : List V}, RDs K H ds vs → ds.length = vs.length
  | _, _, .nil => rfl
  | _, _, .cons _ r => congrArg (· + 1) (RDs.length r)
theorem RDs.append : ∀ {ds es : List D} {vs us : List V}, RDs K H ds vs → RDs K H es us → RDs K H (ds ++ es) (vs ++ us)
  | _, _, _, _, .nil, s => s
  | _, _, _, _, .cons a b, s => .cons a (RDs.append b s)
theorem RDs.get : ∀ {ds : List D} {vs : List V} {i : Nat} {d : D}, RDs K H ds vs → ds[i]? = some d → ∃ v, vs[i]? = some v ∧ RD K H d v
  | _, _, _, _, .nil, e => by simp at e
  | _, _, 0, _, .cons a b, e => by simp at e; subst e; exact ⟨_, rfl, a⟩
  | _, _, i + 1, d, .cons a b, e => by
    obtain ⟨v, h1, h2⟩ := RDs.get (i := i) (d := d) b (by simpa using e)
    exact ⟨v, by simpa using h1, h2⟩
theorem RDs.getV : ∀ {ds : List D} {vs : List V} {i : Nat} {v : V}, RDs K H ds vs → vs[i]? = some v → ∃ d, ds[i]? = some d ∧ RD K H d v
  | _, _, _, _, .nil, e => by simp at e
  | _, _, 0, _, .cons a b, e => by simp at e; subst e; exact ⟨_, rfl, a⟩
  | _, _, i + 1, d, .cons a b, e => by
    obtain ⟨v, h1, h2⟩ := RDs.getV (i := i) (v := d) b (by simpa using e)
    exact ⟨v, by simpa using h1, h2⟩
theorem RDs.drop : ∀ {ds : List D} {vs : List V} (n : Nat), RDs K H ds vs → RDs K H (ds.drop n) (vs.drop n)
  | _, _, 0, r => r
  | _, _, _ + 1, .nil => .nil
  | _, _, n + 1, .cons _ r => RDs.drop n r
theorem RDs.take : ∀ {ds : List D} {vs : List V} (n : Nat), RDs K H ds vs → RDs K H (ds.take n) (vs.take n)
  | _, _, 0, _ => .nil
  | _, _, _ + 1, .nil => .nil
  | _, _, n + 1, .cons a r => .cons a (RDs.take n r)
theorem RDs.set {x : D} {y : V} (q : RD K H x y) : ∀ {ds : List D} {vs : List V} (i : Nat), RDs K H ds vs → RDs K H (ds.set i x) (vs.set i y)
  | _, _, _, .nil => .nil
  | _, _, 0, .cons _ r => .cons q r
  | _, _, i + 1, .cons a r => .cons a (RDs.set q i r)
theorem RDs.rep {ds : List D} {vs : List V} (r : RDs K H ds vs) : ∀ n : Nat, RDs K H (List.replicate n ds).flatten (List.replicate n vs).flatten
  | 0 => .nil
  | n + 1 => by simp only [List.replicate_succ, List.flatten_cons]; exact r.append (RDs.rep r n)
theorem RDs.dropLast {ds : List D} {vs : List V} (r : RDs K H ds vs) : RDs K H ds.dropLast vs.dropLast := by
  rw [List.dropLast_eq_take, List.dropLast_eq_take, ← r.length]; exact r.take _
theorem RDs.ints : ∀ (ns : List Int), RDs K H (ns.map D.int) (ns.map V.int)
  | [] => .nil
  | n :: r => .cons (.int n) (RDs.ints r)
theorem RDs.intsOf : ∀ {ds : List D} {vs : List V} {ns : List Int}, RDs K H ds vs → Mp.intsOf ds = some ns → vs = ns.map V.int
  | _, _, ns, .nil, e => by cases e; rfl
  | _, _, ns, .cons (d := d) (ds := ds) a b, e => by
    cases a with
    | int i =>
      unfold Mp.intsOf at e
      cases q : Mp.intsOf ds with
      | none => rw [q] at e; cases e
      | some l => rw [q] at e; cases e; rw [RDs.intsOf b q]; rfl
    | _ => simp [Mp.intsOf] at e
theorem RDs.blsOf : ∀ {ds : List D} {vs : List V} {ns : List Bool}, RDs K H ds vs → Mp.blsOf ds = some ns → vs = ns.map V.bl
  | _, _, ns, .nil, e => by cases e; rfl
  | _, _, ns, .cons (d := d) (ds := ds) a b, e => by
    cases a with
    | bl i =>
      unfold Mp.blsOf at e
      cases q : Mp.blsOf ds with
      | none => rw [q] at e; cases e
      | some l => rw [q] at e; cases e; rw [RDs.blsOf b q]; rfl
    | _ => simp [Mp.blsOf] at e
theorem RSl.set {σ : Sl} {τ : St} (r : RSl K H σ τ) {d : D} {v : V} (q : RD K H d v) (i : Nat) : RSl K H (σ.set i (some d)) (τ.set i (some v)) := by
  refine ⟨by simp [r.1], fun j e h => ?_⟩
  by_cases hj : i = j
  · subst hj
    by_cases hl : i < σ.length
    · rw [List.getElem?_set_self hl] at h; cases h
      exact ⟨v, by rw [List.getElem?_set_self (by rw [← r.1]; exact hl)], q⟩
    · rw [List.getElem?_eq_none (by simp; omega)] at h; cases h
  · rw [List.getElem?_set_ne hj] at h
    obtain ⟨w, z, q'⟩ := r.2 j e h
    exact ⟨w, by rw [List.getElem?_set_ne hj]; exact z, q'⟩
theorem RSl.unset {σ : Sl} {τ : St} (r : RSl K H σ τ) (i : Nat) : RSl K H (σ.set i none) (τ.set i none) := by
  refine ⟨by simp [r.1], fun j e h => ?_⟩
  by_cases hj : i = j
  · subst hj
    by_cases hl : i < σ.length
    · rw [List.getElem?_set_self hl] at h; cases h
    · rw [List.getElem?_eq_none (by simp; omega)] at h; cases h
  · rw [List.getElem?_set_ne hj] at h
    obtain ⟨w, z, q'⟩ := r.2 j e h
    exact ⟨w, by rw [List.getElem?_set_ne hj]; exact z, q'⟩
theorem RSl.wipe {σ : Sl} {τ : St} (r : RSl K H σ τ) : ∀ vs : List Nat, RSl K H (wipeD σ vs) (L2.wipe τ vs)
  | [] => r
  | v :: vs => (RSl.wipe r vs).unset v
mutual
theorem Pd.dp (r : RS K S H) : ∀ {d : D} {v : V} {p : PyData}, Pd S d p → RD K H d v → Dp K H v p
  | _, _, _, .non, .non => .non
  | _, _, _, .bl b, .bl _ => .bl b
  | _, _, _, .int b, .int _ => .int b
  | _, _, _, .str b, .str _ => .str b
  | _, _, _, .tup h, .tup e q => .tup (.of e) (Pds.dp r h q)
  | _, _, _, .lst e h, .ref _ => by
    obtain ⟨vs, z, q⟩ := r.lst e
    exact .lst (.of z) (Pds.dp r h q)
theorem Pds.dp (r : RS K S H) : ∀ {ds : List D} {vs : List V} {ps : List PyData}, Pds S ds ps → RDs K H ds vs → DpAll K H vs ps
  | _, _, _, .nil, .nil => .nil
  | _, _, _, .cons a b, .cons c d => .cons (Pd.dp r a c) (Pds.dp r b d)
end
mutual
/-- what repr shows, at the machine -/
inductive Dr (K : PySem.W.Frag) (H : Hp) : V → PyData → Prop
  | non : Dr K H .non .none
  | bl (b : Bool) : Dr K H (.bl b) (.bool b)
  | int (i : Int) : Dr K H (.int i) (.int i)
  | str (x : Str) : Dr K H (.str x) (.str x)
  | lst {a : Addr} {xs : List V} {ds : List PyData} : SqL K H a xs → Drs K H xs ds → Dr K H (.ref a) (.list ds)
  | tup {a : Addr} {xs : List V} {ds : List PyData} : SqT K H a xs → Drs K H xs ds → Dr K H (.ref a) (.tuple ds)
  | dic {a : Addr} {ls : List (L2.Key × V)} {ds : List PyData} : Rd H a (.dK ls) → Drs K H (ls.map (·.2)) ds → Dr K H (.ref a) (.dict ((ls.map fun kv => keyP kv.1).zip ds))
inductive Drs (K : PySem.W.Frag) (H : Hp) : List V → List PyData → Prop
  | nil : Drs K H [] []
  | cons {v : V} {vs : List V} {d : PyData} {ds : List PyData} : Dr K H v d → Drs K H vs ds → Drs K H (v :: vs) (d :: ds)
end
theorem RKv.snd : ∀ {kvs : List (L2.Key × D)} {ls : List (L2.Key × V)}, RKv K H kvs ls → RDs K H (kvs.map (·.2)) (ls.map (·.2)) ∧ (kvs.map fun kv => keyP kv.1) = ls.map fun kv => keyP kv.1
  | _, _, .nil => ⟨.nil, rfl⟩
  | _, _, .cons ⟨a, b⟩ c => ⟨.cons b (RKv.snd c).1, by rw [List.map_cons, List.map_cons, (RKv.snd c).2, a]⟩
mutual
theorem Psh.dr (r : RS K S H) : ∀ {d : D} {v : V} {p : PyData}, Psh S d p → RD K H d v → Dr K H v p
  | _, _, _, .non, .non => .non
  | _, _, _, .bl b, .bl _ => .bl b
  | _, _, _, .int b, .int _ => .int b
  | _, _, _, .str b, .str _ => .str b
  | _, _, _, .tup h, .tup e q => .tup (.of e) (Prs.dr r h q)
  | _, _, _, .lst e h, .ref _ => by
    obtain ⟨vs, z, q⟩ := r.lst e
    exact .lst (.of z) (Prs.dr r h q)
  | _, _, _, .dic e h, .ref _ => by
    rcases e with e | e
    · obtain ⟨ls, z, q⟩ := r _ _ e
      have q := RKv.snd q
      rw [q.2]
      exact .dic (.inl z) (Prs.dr r h q.1)
    · obtain ⟨o, ls, z, q⟩ := r _ _ e
      have q := RKv.snd q
      rw [q.2]
      exact .dic (.inr ⟨o, z⟩) (Prs.dr r h q.1)
theorem Prs.dr (r : RS K S H) : ∀ {ds : List D} {vs : List V} {ps : List PyData}, Prs S ds ps → RDs K H ds vs → Drs K H vs ps
  | _, _, _, .nil, .nil => .nil
  | _, _, _, .cons a b, .cons c d => .cons (Psh.dr r a c) (Prs.dr r b d)
end
end
end Mp

namespace Mp
open PySem L2
/-! ### a tuple once, or not at all -/
set_option maxHeartbeats 4000000 in
theorem tup_once (l : Addr) (items : Array Value) (n : Nat) (dd : Option Addr) (sl : Array (Option Value)) (u : Tok) :
    Meets (Builtin.«tuple.__mul__» ⟨[.ref l, .int 1 u], []⟩) (fun _ R s => s.heap.get? l = some { cls := .type "tuple", dict := dd, data := .seq items n, slots := sl } ∧ R (.ok (.ret (Value.ref l))) s) :=
  .of_wp fun prog w A R s h => by
    obtain ⟨hp, g, d, tk, os⟩ := s
    obtain ⟨hl, h⟩ := h
    have f1 := AutoSeq1.idx_int
    have c1 : (items.isEmpty || ((1 : Int) == 1)) = true := by rw [Bool.or_eq_true]; exact .inr (by decide)
    wp_walk using wpAny_loadPart' hl
    exact ⟨_, rfl, h⟩
set_option maxHeartbeats 4000000 in
theorem tup_none (l : Addr) (items : Array Value) (n : Nat) (dd : Option Addr) (sl : Array (Option Value)) (u : Tok) (c : items.isEmpty = false) :
    Meets (Builtin.«tuple.__mul__» ⟨[.ref l, .int 0 u], []⟩) (fun _ R s => s.heap.get? l = some { cls := .type "tuple", dict := dd, data := .seq items n, slots := sl } ∧
      R (.ok (.ret (Value.ref s.heap.objs.size))) { s with heap := s.heap.push { cls := Value.type "tuple", data := Data.seq #[] }, toks := s.toks }) :=
  .of_wp fun prog w A R s h => by
    obtain ⟨hp, g, d, tk, os⟩ := s
    obtain ⟨hl, h⟩ := h
    have f1 := AutoSeq1.idx_int
    have c1 : (items.isEmpty || ((0 : Int) == 1)) = false := by rw [c]; decide
    wp_walk using wpAny_loadPart' hl
    repeat (first
      | (refine wpAny_ite_false (decide_eq_false (by rw [c1]; exact Bool.false_ne_true)) ?_; wp_walk using wpAny_loadPart' hl))
    exact ⟨_, rfl, h⟩
def rOnce (K : PySem.W.Frag) : R2 := fun x y H Q => ∃ l xs, x = .ref l ∧ y = .int 1 ∧ SqT K H l xs ∧ Q (.ref l) H
def rNot (K : PySem.W.Frag) : R2 := fun x y H Q => ∃ l xs, x = .ref l ∧ y = .int 0 ∧ SqT K H l xs ∧ xs ≠ [] ∧ ∀ p, H p = none → Q (.ref p) (upd H p (.tup []))
set_option maxHeartbeats 4000000 in
theorem op_once {X : Cx} : OpR X (binaryOp .Mult) (rOnce X.K) := by
  intro pins s σ H x y v u Q I rx ry ⟨l, xs, e1, e2, hT, q⟩
  subst e1 e2
  cases rx
  obtain ⟨t, rfl⟩ := ry
  obtain ⟨its, r, ⟨⟨cls, dd, data, sl⟩, ho, hc, n, hd⟩, hs⟩ := I.tuple hT
  simp only at hc hd
  subst hc hd
  refine wpAny_binaryOp_repeat_ref (T := "tuple") (U := "int") (by decide) ⟨_, ho, rfl⟩ (fun s' => typeIs_int s' 1 t) noFill_tuple_mul F.fills_int_mul F.slot_int_rmul repeat_tuple F.slot_int_index.lookup
    (call_meets F.slot_int_rmul (typeIs_int s 1 t) F.entry_int_rmul (F.args_int_rmul_2 _ _) (int_rmul_tuple 1 t l its.toArray n dd sl)
      ⟨ho, rfl, ⟨_, ho, rfl⟩, call_meets F.slot_tuple_mul ⟨_, ho, rfl⟩ F.entry_tuple_mul (F.args_tuple_mul_2 _ _) (tup_once l its.toArray n dd sl t) ⟨ho, .ref l, H, I, rfl, q⟩⟩)
set_option maxHeartbeats 4000000 in
theorem op_not {X : Cx} : OpR X (binaryOp .Mult) (rNot X.K) := by
  intro pins s σ H x y v u Q I rx ry ⟨l, xs, e1, e2, hT, hne, q⟩
  subst e1 e2
  cases rx
  obtain ⟨t, rfl⟩ := ry
  obtain ⟨its, r, ⟨⟨cls, dd, data, sl⟩, ho, hc, n, hd⟩, hs⟩ := I.tuple hT
  simp only at hc hd
  subst hc hd
  have hi : its.toArray.isEmpty = false := by
    cases its with
    | nil => exact absurd (List.eq_nil_of_length_eq_zero (by rw [r.length]; rfl)) hne
    | cons a b => rfl
  refine wpAny_binaryOp_repeat_ref (T := "tuple") (U := "int") (by decide) ⟨_, ho, rfl⟩ (fun s' => typeIs_int s' 0 t) noFill_tuple_mul F.fills_int_mul F.slot_int_rmul repeat_tuple F.slot_int_index.lookup
    (call_meets F.slot_int_rmul (typeIs_int s 0 t) F.entry_int_rmul (F.args_int_rmul_2 _ _) (int_rmul_tuple 0 t l its.toArray n dd sl)
      ⟨ho, rfl, ⟨_, ho, rfl⟩, call_meets F.slot_tuple_mul ⟨_, ho, rfl⟩ F.entry_tuple_mul (F.args_tuple_mul_2 _ _) (tup_none l its.toArray n dd sl t hi) ⟨ho, .ref s.heap.objs.size, _, I.laid (t' := s.toks) (o := .tup []) (fun b ob q => Heap.get?_push_of_some _ q) (Nat.le_refl _) ?_, rfl, q _ (I.hok.fresh (Nat.le_refl _))⟩⟩)
  exact ⟨Nat.zero_le _, [], .nil, ⟨_, Heap.get?_push_size _ rfl, rfl, _, rfl⟩⟩

/-! ## the operators -/
/-- what follows in the model, from what follows in the language -/
def Kp (K : PySem.W.Frag) (S : Sto) (H : Hp) (Q' : Post) (Q : VK) : Prop := ∀ d S' v H', Fr S H S' H' → RS K S' H' → RD K H' d v → Q' d S' → Q v H'
section
variable {K : PySem.W.Frag} {H H1 H2 H' : Hp} {S S1 S2 S' : Sto} {Q' : Post} {Q : VK}
theorem Kp.at (k : Kp K S H Q' Q) (r : RS K S H) {d : D} {v : V} (q : RD K H d v) (h : Q' d S) : Q v H := k d S v H .refl r q h
theorem Kp.on (k : Kp K S H Q' Q) (f : Fr S H S1 H1) : Kp K S1 H1 Q' Q := fun d S' v H' g => k d S' v H' (f.trans g)
/-- a new list -/
theorem Kp.lst (k : Kp K S H Q' Q) (r : RS K S H) {ds : List D} {vs : List V} (q : RDs K H ds vs) (h : pNew (.lst ds) S Q') : ∀ p, H p = none → Q (.ref p) (upd H p (.lst vs)) := fun p hp =>
  k _ _ _ _ (Fr.new r hp (.lst vs) (.lst ds)) (r.new hp ⟨vs, upd_same, q.stay (stay_new hp _)⟩) (.ref p) (h p (r.fresh hp))
/-- a new tuple -/
theorem Kp.tup (k : Kp K S H Q' Q) (r : RS K S H) {ds : List D} {vs : List V} (q : RDs K H ds vs) (h : Q' (.tup ds) S) : ∀ p, H p = none → Q (.ref p) (upd H p (.tup vs)) := fun p hp =>
  k _ _ _ _ (Fr.out r hp (.tup vs)) (r.out hp _) (.tup upd_same (q.stay (stay_new hp _))) h

def rAdd (K : PySem.W.Frag) : R2 := fun x y H Q => rI0 (fun i j => .int (i + j)) x y H Q ∨ (∃ i j, x = .str i ∧ y = .str j ∧ i.length + j.length ≤ sizeLine ∧ Q (.str (i ++ j)) H) ∨ rCatA K x y H Q ∨ rCat x y H Q
theorem op_addM {X : Cx} : OpR X (binaryOp .Add) (Mp.rAdd X.K) := op_add.or (op_add_str.or (op_catA.or op_cat))
theorem pAdd_ok (r : RS K S H) {x y : D} {v u : V} (rx : RD K H x v) (ry : RD K H y u) (k : Kp K S H Q' Q) (h : pAdd x y S Q') : Mp.rAdd K v u H Q := by
  cases rx with
  | int i =>
    cases ry with
    | int j => exact .inl ⟨i, j, rfl, rfl, k.at r (.int _) h⟩
    | _ => exact h.elim
  | str a =>
    cases ry with
    | str b => exact .inr (.inl ⟨a, b, rfl, rfl, h.1, k.at r (.str _) h.2⟩)
    | _ => exact h.elim
  | tup e q =>
    cases ry with
    | tup e' q' =>
      obtain ⟨hl, h⟩ := h
      rw [q.length, q'.length] at hl
      refine .inr (.inr (.inl ⟨_, _, _, _, rfl, rfl, .of e, .of e', hl, fun z => ?_, fun _ z => ?_, fun _ _ => k.tup r (q.append q') h⟩))
      · subst z; cases q; exact k.at r (.tup e' q') h
      · subst z; cases q'; rw [List.append_nil] at h; exact k.at r (.tup e q) h
    | _ => exact h.elim
  | ref p =>
    cases ry with
    | ref p' =>
      unfold pAdd at h
      dsimp only at h
      split at h
      · rename_i e e'
        obtain ⟨vs, z, q⟩ := r.lst e
        obtain ⟨vs', z', q'⟩ := r.lst e'
        refine .inr (.inr (.inr ⟨_, _, vs, vs', rfl, rfl, z, z', by rw [← q.length, ← q'.length]; exact h.1, k.lst r (q.append q') h.2⟩))
      · exact h.elim
    | _ => exact h.elim
  | _ => exact h.elim
def rMul (K : PySem.W.Frag) : R2 := fun x y H Q => (rI CMulW (fun i j => .int (i * j)) x y H Q ∨ rI CMul (fun i j => .int (i * j)) x y H Q) ∨ (rOnce K x y H Q ∨ rNot K x y H Q) ∨ rRepT K x y H Q ∨ rRep x y H Q
theorem op_mulM {X : Cx} : OpR X (binaryOp .Mult) (Mp.rMul X.K) := (op_mulW.or op_mul).or ((op_once.or op_not).or (op_repT.or op_rep))
theorem pMul_ok (r : RS K S H) {x y : D} {v u : V} (rx : RD K H x v) (ry : RD K H y u) (k : Kp K S H Q' Q) (h : pMul x y S Q') : Mp.rMul K v u H Q := by
  cases rx with
  | int i =>
    cases ry with
    | int j =>
      obtain ⟨c, h⟩ := h
      rcases c with c | c
      · exact .inl (.inl ⟨i, j, rfl, rfl, c, k.at r (.int _) h⟩)
      · exact .inl (.inr ⟨i, j, rfl, rfl, c, k.at r (.int _) h⟩)
    | _ => exact h.elim
  | tup e q =>
    cases ry with
    | int j =>
      rcases h with ⟨rfl, h⟩ | ⟨rfl, h0, h⟩ | ⟨h0, h1, h2, h3, h⟩
      · exact .inr (.inl (.inl ⟨_, _, rfl, rfl, .of e, k.at r (.tup e q) h⟩))
      · exact .inr (.inl (.inr ⟨_, _, rfl, rfl, .of e, fun z => by subst z; cases q; exact h0 rfl, k.tup r .nil h⟩))
      · exact .inr (.inr (.inl ⟨_, j, _, rfl, rfl, .of e, fun z => by subst z; cases q; exact h0 rfl, h1, h2, by rw [← q.length]; exact h3, k.tup r (q.rep _) h⟩))
    | _ => exact h.elim
  | ref p =>
    cases ry with
    | int j =>
      unfold pMul at h
      dsimp only at h
      split at h
      · rename_i e
        obtain ⟨vs, z, q⟩ := r.lst e
        obtain ⟨h1, h2, h3, h⟩ := h
        exact .inr (.inr (.inr ⟨_, j, vs, rfl, rfl, z, h1, h2, by rw [← q.length]; exact h3, k.lst r (q.rep _) h⟩))
      · exact h.elim
    | _ => exact h.elim
  | _ => exact h.elim
def rBin (K : PySem.W.Frag) (o : Operator) : R2 := match o with
  | .Add => Mp.rAdd K
  | .Mult => Mp.rMul K
  | .Sub => rI0 fun i j => .int (i - j)
  | .Mod => rI (fun _ j => 0 < j) fun i j => .int (i % j)
  | .FloorDiv => rI CDivW fun i j => .int (i / j)
  | .Pow => rI CPow fun i j => .int (i ^ j.toNat)
  | _ => fun _ _ _ _ => False
theorem op_bin {X : Cx} {o : Operator} (h : opOk o = true) : OpR X (binaryOp o) (rBin X.K o) := by
  cases o <;> first | exact op_addM | exact op_mulM | exact op_sub | exact op_mod | exact op_fdivW | exact op_pow | cases h
theorem pBin_ok (r : RS K S H) {o : Operator} {x y : D} {v u : V} (rx : RD K H x v) (ry : RD K H y u) (k : Kp K S H Q' Q) (h : pBin o x y S Q') : rBin K o v u H Q := by
  cases o with
  | Add => exact pAdd_ok r rx ry k h
  | Mult => exact pMul_ok r rx ry k h
  | Sub => obtain ⟨i, j, rfl, rfl, h⟩ := h; cases rx; cases ry; exact ⟨i, j, rfl, rfl, k.at r (.int _) h⟩
  | Mod => obtain ⟨i, j, rfl, rfl, c, h⟩ := h; cases rx; cases ry; exact ⟨i, j, rfl, rfl, c, k.at r (.int _) h⟩
  | FloorDiv => obtain ⟨i, j, rfl, rfl, c, h⟩ := h; cases rx; cases ry; exact ⟨i, j, rfl, rfl, c, k.at r (.int _) h⟩
  | Pow => obtain ⟨i, j, rfl, rfl, c, h⟩ := h; cases rx; cases ry; exact ⟨i, j, rfl, rfl, c, k.at r (.int _) h⟩
  | _ => exact h.elim

/-! ### comparisons -/
theorem toV_of {d : D} {v : V} (h : RD K H d v) (f : d.flat = true) : v = d.toV ∧ flatV v = true := by
  cases h <;> first | exact ⟨rfl, rfl⟩ | cases f
theorem scal_ok {x y : D} {v u : V} (h : scalD x y = true) (rx : RD K H x v) (ry : RD K H y u) : scal v u = true ∧ v = x.toV ∧ u = y.toV := by
  cases rx <;> cases ry <;> first | exact ⟨rfl, rfl, rfl⟩ | cases h
theorem toVs_of : ∀ {ds : List D} {vs : List V}, RDs K H ds vs → ds.all D.flat = true → vs = ds.map D.toV ∧ vs.all flatV = true
  | _, _, .nil, _ => ⟨rfl, rfl⟩
  | _, _, .cons a b, f => by
    rw [List.all_cons, Bool.and_eq_true] at f
    obtain ⟨e1, f1⟩ := toV_of a f.1
    obtain ⟨e2, f2⟩ := toVs_of b f.2
    exact ⟨by rw [e1, e2]; rfl, by rw [List.all_cons, f1, f2]; rfl⟩
/-! dicts -/
theorem kV_of {k : Key} {d : D} {v : V} (h : keyOf d = some k) (r : RD K H d v) : v = kV k := by
  cases r <;> cases h <;> rfl
theorem kD_rd (k : Key) : RD K H (kD k) (kV k) := by cases k with
  | inl i => exact .int i
  | inr x => exact .str x
theorem RKv.get : ∀ {kvs : List (Key × D)} {ls : List (Key × V)} (k : Key), RKv K H kvs ls → (getK kvs k = none → valV ls k = none) ∧ ∀ d, getK kvs k = some d → ∃ v, valV ls k = some v ∧ RD K H d v
  | _, _, k, .nil => ⟨fun _ => rfl, fun _ z => by cases z⟩
  | _, _, k, .cons (a := a) (b := b) h t => by
    obtain ⟨e, q⟩ := h
    have ih := RKv.get k t
    unfold getK valV at *
    rw [List.find?_cons, List.find?_cons, ← e]
    by_cases hk : a.1 = k
    · rw [decide_eq_true hk]
      exact ⟨fun z => by simp at z, fun d z => by simp only [Option.map_some, Option.some.injEq] at z; subst z; exact ⟨b.2, rfl, q⟩⟩
    · rw [decide_eq_false hk]
      exact ih
theorem RKv.any : ∀ {kvs : List (Key × D)} {ls : List (Key × V)} (k : Key), RKv K H kvs ls → (kvs.any fun kv => decide (kv.1 = k)) = (ls.any fun kv => decide (kv.1 = k))
  | _, _, k, .nil => rfl
  | _, _, k, .cons h t => by rw [List.any_cons, List.any_cons, RKv.any k t, h.1]
theorem RKv.map (k : Key) {d : D} {v : V} (q : RD K H d v) : ∀ {kvs : List (Key × D)} {ls : List (Key × V)}, RKv K H kvs ls →
    RKv K H (kvs.map fun kv => if kv.1 = k then (kv.1, d) else kv) (ls.map fun kv => if kv.1 = k then (kv.1, v) else kv)
  | _, _, .nil => .nil
  | _, _, .cons (a := a) (b := b) h t => by
    refine .cons ?_ (RKv.map k q t)
    obtain ⟨e, z⟩ := h
    by_cases hk : a.1 = k
    · dsimp only; rw [if_pos hk, if_pos (e ▸ hk)]; exact ⟨e, q⟩
    · dsimp only; rw [if_neg hk, if_neg (e ▸ hk)]; exact ⟨e, z⟩
theorem RKv.snoc (k : Key) {d : D} {v : V} (q : RD K H d v) : ∀ {kvs : List (Key × D)} {ls : List (Key × V)}, RKv K H kvs ls → RKv K H (kvs ++ [(k, d)]) (ls ++ [(k, v)])
  | _, _, .nil => .cons ⟨rfl, q⟩ .nil
  | _, _, .cons h t => .cons h (RKv.snoc k q t)
theorem RKv.put (k : Key) {d : D} {v : V} (q : RD K H d v) {kvs : List (Key × D)} {ls : List (Key × V)} (h : RKv K H kvs ls) : RKv K H (putD kvs k d) (putK ls k v) := by
  unfold putD putK
  rw [RKv.any k h]
  split
  · exact h.map k q
  · exact h.snoc k q
theorem RKv.merge {more : List (Key × D)} {mv : List (Key × V)} (h : RKv K H more mv) : ∀ {kvs : List (Key × D)} {ls : List (Key × V)}, RKv K H kvs ls → RKv K H (mergeD kvs more) (mergeK ls mv) := by
  induction h with
  | nil => intro _ _ h; exact h
  | cons h t ih => intro kvs ls hk; exact ih (by dsimp only; rw [← h.1]; exact hk.put _ h.2)
/-- what a dict holds -/
theorem dGet_ok (r : RS K S H) {a : Addr} {y : D} {u : V} (ry : RD K H y u) {R : Option D → Prop} (h : dGet S a y R) : ∃ o o', DGet H a u o' ∧ R o ∧ (o = none → o' = none) ∧ ∀ d, o = some d → ∃ v, o' = some v ∧ RD K H d v := by
  unfold dGet at h
  split at h
  · rename_i e
    obtain ⟨ls, z, q⟩ := r _ _ e
    obtain ⟨k, hk, h⟩ := h
    have := kV_of hk ry
    subst this
    exact ⟨_, _, DGet.k z, h, (RKv.get k q).1, (RKv.get k q).2⟩
  · rename_i e
    obtain ⟨o, ls, z, q⟩ := r _ _ e
    obtain ⟨k, hk, h⟩ := h
    have := kV_of hk ry
    subst this
    exact ⟨_, _, .inl ⟨ls, k, .inr ⟨o, z⟩, rfl, rfl⟩, h, (RKv.get k q).1, (RKv.get k q).2⟩
  · exact h.elim
def rInDct (neg : Bool) : R2 := fun x y H Q => ∃ a o, y = .ref a ∧ DGet H a x o ∧ Q (.bl (if neg then !o.isSome else o.isSome)) H
theorem op_inDct {X : Cx} (hu : X.A.units + 65 < cLine) : OpR X (compareOp .In) (rInDct false) := fun pins s σ H x y v u Q I rx ry ⟨a, o, e, g, q⟩ => by
  subst e
  obtain rfl : u = Value.ref a := ry
  exact d_in (by omega) I g rx fun s3 I3 => ⟨.bl o.isSome, H, I3, rfl, q⟩
theorem op_ninDct {X : Cx} (hu : X.A.units + 65 < cLine) : OpR X (compareOp .NotIn) (rInDct true) := fun pins s σ H x y v u Q I rx ry ⟨a, o, e, g, q⟩ => by
  subst e
  obtain rfl : u = Value.ref a := ry
  exact d_notIn (by omega) I g rx fun s3 I3 => ⟨.bl (!o.isSome), H, I3, rfl, q⟩
def rInM0 (K : PySem.W.Frag) (neg : Bool) : R2 := fun x y H Q =>
  (∃ i j, x = .str i ∧ y = .str j ∧ Q (.bl (if neg then !(!(Builtin.Str.occurrences j i 0 j.length 1).isEmpty) else !(Builtin.Str.occurrences j i 0 j.length 1).isEmpty)) H) ∨
  rIn K neg x y H Q ∨ ∃ d ds, Dp K H x d ∧ Dp K H y (.list ds) ∧ SeqAt.shaped d = true ∧ SeqAt.shaped (.list ds) = true ∧ Q (.bl (if neg then !ds.any fun z => PyData.eqv z d else ds.any fun z => PyData.eqv z d)) H
def rInM (K : PySem.W.Frag) (neg : Bool) : R2 := fun x y H Q => rInM0 K neg x y H Q ∨ rInDct neg x y H Q
theorem op_inM {X : Cx} (hu : X.A.units + 65 < cLine) : OpR X (compareOp .In) (rInM X.K false) := (op_in_str.or (op_in_seq.or (op_inD hu))).or (op_inDct hu)
theorem op_ninM {X : Cx} (hu : X.A.units + 65 < cLine) : OpR X (compareOp .NotIn) (rInM X.K true) := (op_notIn_str.or (op_notIn_seq.or (op_notInD hu))).or (op_ninDct hu)
theorem pIn_ok (r : RS K S H) {x y : D} {v u : V} (rx : RD K H x v) (ry : RD K H y u) {neg : Bool} {R : Bool → Prop} (k : ∀ b, R b → Q (.bl b) H) (h : pIn x y S fun b => R (if neg then !b else b)) : rInM K neg v u H Q := by
  cases ry with
  | str z =>
    obtain ⟨w, rfl, h⟩ := h
    cases rx
    exact .inl (.inl ⟨w, z, rfl, rfl, k _ h⟩)
  | tup e q =>
    obtain ⟨f1, f2, h⟩ := h
    obtain ⟨e1, g1⟩ := toV_of rx f1
    obtain ⟨e2, g2⟩ := toVs_of q f2
    refine .inl (.inr (.inl ⟨_, _, rfl, .inr (.of e), g1, g2, ?_⟩))
    rw [e1, e2, inV, List.any_map]
    exact k _ h
  | ref a =>
    unfold pIn at h
    dsimp only at h
    split at h
    · rename_i e
      obtain ⟨vs, z, q⟩ := r.lst e
      rcases h with ⟨f1, f2, h⟩ | ⟨p, ps, h1, h2, s1, s2, h⟩
      · obtain ⟨e1, g1⟩ := toV_of rx f1
        obtain ⟨e2, g2⟩ := toVs_of q f2
        refine .inl (.inr (.inl ⟨_, _, rfl, .inl (.of z), g1, g2, ?_⟩))
        rw [e1, e2, inV, List.any_map]
        exact k _ h
      · exact .inl (.inr (.inr ⟨p, ps, Pd.dp r h1 rx, .lst (.of z) (Pds.dp r h2 q), s1, s2, k _ h⟩))
    · obtain ⟨o, o', g, h, n1, n2⟩ := dGet_ok r rx h
      refine .inr ⟨a, o', rfl, g, ?_⟩
      have e : o'.isSome = o.isSome := by
        cases o with
        | none => rw [n1 rfl]; rfl
        | some d => obtain ⟨v, e, _⟩ := n2 d rfl; rw [e]; rfl
      rw [e]
      exact k _ h
  | _ => exact h.elim
def rCmp (K : PySem.W.Frag) (o : CmpOp) : R2 := match o with
  | .Eq => fun x y H Q => rEq x y H Q ∨ rEqD K x y H Q
  | .NotEq => fun x y H Q => rNe x y H Q ∨ rNeD K x y H Q
  | .Lt => rI0 fun i j => .bl (decide (i < j))
  | .LtE => rI0 fun i j => .bl (decide (i ≤ j))
  | .Gt => rI0 fun i j => .bl (decide (j < i))
  | .GtE => rI0 fun i j => .bl (decide (j ≤ i))
  | .Is => fun x y H Q => y = .non ∧ Q (.bl (decide (x = .non))) H
  | .IsNot => fun x y H Q => y = .non ∧ Q (.bl (!decide (x = .non))) H
  | .In => rInM K false
  | .NotIn => rInM K true
theorem op_cmp {X : Cx} (hu : X.A.units + 65 < cLine) (o : CmpOp) : OpR X (compareOp o) (rCmp X.K o) := by
  have hu' : X.A.units + 64 < cLine := by omega
  cases o <;> first | exact op_eq.or (op_eqD hu') | exact op_ne.or (op_neD hu') | exact op_lt | exact op_le | exact op_gt | exact op_ge | exact op_isN | exact op_notN | exact op_inM hu | exact op_ninM hu
theorem pCmp_ok (r : RS K S H) {o : CmpOp} {x y : D} {v u : V} (rx : RD K H x v) (ry : RD K H y u) {R : Bool → Prop} (k : ∀ b, R b → Q (.bl b) H) (h : pCmp o x y S R) : rCmp K o v u H Q := by
  cases o with
  | Eq =>
    rcases h with ⟨sc, h⟩ | ⟨p, q, h1, h2, s1, s2, h⟩
    · obtain ⟨e1, e2, e3⟩ := scal_ok sc rx ry
      subst e2 e3
      exact .inl ⟨e1, k _ h⟩
    · exact .inr ⟨p, q, Pd.dp r h1 rx, Pd.dp r h2 ry, s1, s2, k _ h⟩
  | NotEq =>
    rcases h with ⟨sc, h⟩ | ⟨p, q, h1, h2, s1, s2, h⟩
    · obtain ⟨e1, e2, e3⟩ := scal_ok sc rx ry
      subst e2 e3
      exact .inl ⟨e1, k _ h⟩
    · exact .inr ⟨p, q, Pd.dp r h1 rx, Pd.dp r h2 ry, s1, s2, k _ h⟩
  | Lt => obtain ⟨i, j, rfl, rfl, h⟩ := h; cases rx; cases ry; exact ⟨i, j, rfl, rfl, k _ h⟩
  | LtE => obtain ⟨i, j, rfl, rfl, h⟩ := h; cases rx; cases ry; exact ⟨i, j, rfl, rfl, k _ h⟩
  | Gt => obtain ⟨i, j, rfl, rfl, h⟩ := h; cases rx; cases ry; exact ⟨i, j, rfl, rfl, k _ h⟩
  | GtE => obtain ⟨i, j, rfl, rfl, h⟩ := h; cases rx; cases ry; exact ⟨i, j, rfl, rfl, k _ h⟩
  | Is =>
    obtain ⟨rfl, h⟩ := h
    cases ry
    refine ⟨rfl, k _ ?_⟩
    cases rx <;> exact h
  | IsNot =>
    obtain ⟨rfl, h⟩ := h
    cases ry
    refine ⟨rfl, k _ ?_⟩
    cases rx <;> exact h
  | In => exact pIn_ok (neg := false) r rx ry k h
  | NotIn => exact pIn_ok (neg := true) r rx ry k h

/-! ### truth, types -/
theorem pTru_ok (r : RS K S H) {x : D} {v : V} (rx : RD K H x v) {R : Bool → Prop} (h : pTru x S R) : ∃ k, TruV K v H k ∧ R k := by
  cases rx with
  | non => exact ⟨_, rfl, h⟩
  | bl b => exact ⟨_, rfl, h⟩
  | int i => exact ⟨_, rfl, h⟩
  | str z => exact ⟨_, ⟨h.1, rfl⟩, h.2⟩
  | tup e q => exact ⟨_, .inr (.inl ⟨_, .of e, rfl⟩), by cases q <;> exact h⟩
  | scr e => exact ⟨_, .inl ⟨_, e.sq, rfl⟩, by rename_i ns; cases ns <;> exact h⟩
  | ref a =>
    unfold pTru at h
    dsimp only at h
    split at h
    · rename_i e
      obtain ⟨vs, z, q⟩ := r.lst e
      exact ⟨_, .inl ⟨_, .of z, rfl⟩, by cases q <;> exact h⟩
    · rename_i e
      obtain ⟨vs, z, q⟩ := r _ _ e
      exact ⟨_, .inr (.inr ⟨_, z, rfl⟩), by cases q <;> exact h⟩
    · exact h.elim
theorem tyOf_ok (r : RS K S H) {x : D} {v : V} (rx : RD K H x v) {s : String} (h : tyOf x S = some s) : TyX K H v (.type s) := by
  cases rx with
  | non => cases h; exact .base .non
  | bl b => cases h; exact .base (.bl _)
  | int i => cases h; exact .base (.int _)
  | str z => cases h; exact .base (.str _)
  | tup e q => cases h; exact .base (.tup e)
  | scr e =>
    cases h
    rcases e with ⟨o, e⟩ | ⟨o, its, n, e, c, _⟩
    · exact .base (.frz e)
    · exact .kList e c
  | ref a =>
    unfold tyOf at h
    dsimp only at h
    split at h
    · rename_i e
      obtain ⟨vs, z, q⟩ := r.lst e
      cases h
      exact .base (.lst z)
    · rename_i e
      obtain ⟨vs, z, q⟩ := r _ _ e
      cases h
      exact .base (.dK z)
    · rename_i e
      obtain ⟨o, vs, z, q⟩ := r _ _ e
      cases h
      exact .fDict z
    · cases h
theorem kit_all (s : String) (hs : s = "NoneType" ∨ s = "bool" ∨ s = "int" ∨ s = "str" ∨ s = "tuple" ∨ s = "list" ∨ s = "dict") (t : Ty) : kitB s t.name = some (isTy s t) := by
  rcases hs with rfl | rfl | rfl | rfl | rfl | rfl | rfl <;> cases t <;> decide +kernel
theorem tyOf_names {x : D} {s : String} (h : tyOf x S = some s) : s = "NoneType" ∨ s = "bool" ∨ s = "int" ∨ s = "str" ∨ s = "tuple" ∨ s = "list" ∨ s = "dict" := by
  unfold tyOf at h
  split at h <;> first
    | (cases h; simp)
    | (split at h <;> first | (cases h; simp) | cases h)
theorem pIsi_ok (r : RS K S H) {x : D} {v : V} (rx : RD K H x v) {t : Ty} {R : Bool → Prop} (k : ∀ b, R b → Q (.bl b) H) (h : pIsi x t S R) : rIsi K [v, .ty t.name] H Q := by
  unfold pIsi at h
  split at h
  · rename_i s e
    exact ⟨v, .ty t.name, .type s, .type t.name, isTy s t, rfl, .ty _, tyOf_ok r rx e, kit_ty (kit_all s (tyOf_names e) t), k _ h⟩
  · exact h.elim
/-! ### items, slices -/
def rIxD : R2 := fun x y H Q => ∃ a v, x = .ref a ∧ DGet H a y (some v) ∧ Q v H
open PySem.Spec PyProof.Rows in
theorem ix_dict {X : Cx} (hu : X.A.units + 65 < cLine) : IxR X rIxD := by
  intro value slice pins s σ H x y v u Q I rx ry h hs
  obtain ⟨a, w, rfl, g, q⟩ := h
  obtain rfl : v = Value.ref a := rx
  have hT := dict_typeIs I g
  unfold subscriptTail
  refine wpAny_bind ?_
  rw [getitemInPython_of_ne hT.not_modules]
  refine wpAny_bind (wpAny_specialOf hT PySem.F.slot_dict_getitem.lookup ?_)
  have fin : wpAny (model X.prog X.w) X.A (subscripted slice false (.ref a) u) (fun r s₃ => wpAny (model X.prog X.w) X.A (letTemporaryGo value (.ref a) r >>= fun _ => pure r) (EP X pins σ Q) X.xe s₃) X.xe s := by
    rw [hs]
    exact wpAny_operating (d_getItem (by omega) I g ry fun w' s' I' rw' => wpAny_bind (wpAny_letTemporaryGo (wpAny_pure ⟨w, H, I', rw', q⟩)))
  first
    | exact wpAny_pure (wpAny_bind fin)
    | exact wpAny_bind (wpAny_pure (wpAny_bind fin))
    | exact wpAny_bind fin
def rIxM (K : PySem.W.Frag) : R2 := fun x y H Q => rIx K x y H Q ∨ rIxD x y H Q
theorem ix_all {X : Cx} (hu : X.A.units + 65 < cLine) : IxR X (rIxM X.K) := ix_seq.or (ix_dict hu)
theorem pIx_ok (r : RS K S H) {x y : D} {v u : V} (rx : RD K H x v) (ry : RD K H y u) (k : Kp K S H Q' Q) (h : pIx x y S Q') : rIxM K v u H Q := by
  have gets : ∀ {ds : List D} {vs : List V} {i : Int} {d : D}, RDs K H ds vs → atI ds i = some d → ∃ w, atI vs i = some w ∧ RD K H d w := fun {ds vs i d} q e => by
    unfold atI at e ⊢
    rw [← q.length]
    cases z : ixN ds.length i with
    | none => rw [z] at e; cases e
    | some j =>
      rw [z] at e
      exact q.get (i := j) (d := d) e
  cases rx with
  | tup e q =>
    obtain ⟨i, d, rfl, hd, h⟩ := h
    cases ry
    obtain ⟨w, hw, rw'⟩ := gets q hd
    exact .inl (.inr (.inl ⟨_, _, i, w, rfl, rfl, .of e, hw, k.at r rw' h⟩))
  | scr e =>
    rename_i ns
    obtain ⟨i, d, rfl, hd, h⟩ := h
    cases ry
    have hd' : atI (ns.map V.int) i = some (.int d) := by
      unfold atI at hd ⊢
      rw [List.length_map]
      cases z : ixN ns.length i with
      | none => rw [z] at hd; cases hd
      | some j =>
        rw [z] at hd
        show (ns.map V.int)[j]? = _
        have hd : ns[j]? = some d := hd
        rw [List.getElem?_map, hd]; rfl
    exact .inl (.inl ⟨_, _, i, .int d, rfl, rfl, e.sq, hd', k.at r (.int _) h⟩)
  | str z =>
    obtain ⟨i, c, rfl, hz, hc, h⟩ := h
    cases ry
    exact .inl (.inr (.inr ⟨z, i, c, rfl, rfl, hz, hc, k.at r (.str _) h⟩))
  | ref a =>
    unfold pIx at h
    dsimp only at h
    split at h
    · rename_i e
      obtain ⟨vs, z, q⟩ := r.lst e
      obtain ⟨i, d, rfl, hd, h⟩ := h
      cases ry
      obtain ⟨w, hw, rw'⟩ := gets q hd
      exact .inl (.inl ⟨_, _, i, w, rfl, rfl, .of z, hw, k.at r rw' h⟩)
    · obtain ⟨o, o', g, h, n1, n2⟩ := dGet_ok r ry h
      obtain ⟨d, rfl, h⟩ := h
      obtain ⟨v, rfl, q⟩ := n2 d rfl
      exact .inr ⟨a, v, rfl, g, k.at r q h⟩
  | _ => exact h.elim
def rSl (K : PySem.W.Frag) : V → Option Int → Option Int → Hp → VK → Prop := fun x lo hi H Q => rSlA K x lo hi H Q ∨ rSlS x lo hi H Q ∨ rSlL K x lo hi H Q
theorem sl_all {X : Cx} : SlR X (Mp.rSl X.K) := sl_tupA.or (sl_str.or sl_list)
theorem RDs.cut {ds : List D} {vs : List V} (q : RDs K H ds vs) (lo hi : Option Int) : RDs K H (cutD ds lo hi) (cutV vs lo hi) := by
  unfold cutD cutV
  rw [← q.length]
  exact (q.drop _).take _
theorem cutD_whole {α : Type} (xs : List α) (lo hi : Option Int) (h : HT.sIx xs.length 0 lo = 0 ∧ HT.sIx xs.length xs.length hi = xs.length) : cutD xs lo hi = xs := by
  unfold cutD; rw [h.1, h.2]; simp
theorem pSl_ok (r : RS K S H) {x : D} {v : V} {lo hi : Option Int} (rx : RD K H x v) (k : Kp K S H Q' Q) (h : pSl x lo hi S Q') : Mp.rSl K v lo hi H Q := by
  cases rx with
  | tup e q =>
    refine .inl ⟨_, _, rfl, .of e, fun z => ?_, fun _ => k.tup r (q.cut lo hi) h⟩
    rw [← q.length] at z
    have h : Q' (.tup (cutD _ lo hi)) S := h
    rw [cutD_whole _ _ _ z] at h
    exact k.at r (.tup e q) h
  | str z => exact .inr (.inl ⟨z, rfl, h.1, k.at r (.str _) h.2⟩)
  | scr e =>
    rename_i ns
    refine .inr (.inr ⟨_, _, rfl, e.sq, ?_⟩)
    have z : cutV (ns.map V.int) lo hi = (cutD ns lo hi).map V.int := by
      unfold cutV cutD; rw [List.length_map, List.map_take, List.map_drop]
    rw [z]
    exact k.lst r (RDs.ints _) h
  | ref a =>
    unfold pSl at h
    dsimp only at h
    split at h
    · rename_i e
      obtain ⟨vs, z, q⟩ := r.lst e
      exact .inr (.inr ⟨_, _, rfl, .of z, k.lst r (q.cut lo hi) h⟩)
    · exact h.elim
  | _ => exact h.elim
end
end Mp

namespace Mp
open PySem L2

/-! ## built-in functions and methods -/
section
variable {K : PySem.W.Frag} {H H1 H2 H' : Hp} {S S1 S2 S' : Sto} {Q' : Post} {Q : VK}
/-- the table of modules stands in the base -/
def SysM (X : Cx) : Prop := ∃ m, X.base.Ns sysModules m
theorem SysM.off {X : Cx} {pins : List (Addr × Obj)} {σ : St} {s : Shared} (m : SysM X) (I : Inv X pins σ H s) : H sysModules = none ∧ ∀ o, X.K.lookup sysModules = some o → o.cls = .type "list" → (∃ its n, o.data = .seq its n) → False := by
  obtain ⟨mm, o, es, ep, e, d, _⟩ := m
  refine ⟨(I.bs _ _ e).2, fun o' e' c ⟨its, n, d'⟩ => ?_⟩
  have := I.mod.kin _ _ e'
  rw [e] at this
  cases this
  rw [d] at d'
  cases d'
theorem SysM.rd {X : Cx} {pins : List (Addr × Obj)} {σ : St} {s : Shared} (m : SysM X) (I : Inv X pins σ H s) {a : Addr} {u : HO} (h : Rd H a u) : sysModules ≠ a := fun e => by
  have z := (m.off I).1
  subst e
  rcases h with h | ⟨o, h⟩ <;> (rw [z] at h; cases h)
theorem key_reads {h : Heap} {P : Program} {w : World} : ∀ {es : List DictEntry} {vs : List (L2.Key × Value)} {ls : List (L2.Key × V)}, Pairs (mixKind P w) es vs → KV ls vs → ReadsAll h (es.map (·.key)) (ls.map fun kv => keyP kv.1) [] ∧ Vals (ls.map (·.2)) (es.map (·.val))
  | _, _, _, .nil, .nil => ⟨.nil, .nil⟩
  | _, _, _, .cons (e := e) a b c, .cons (a := l) ⟨d, f⟩ g => by
    obtain ⟨g1, g2⟩ := key_reads (h := h) c g
    refine ⟨?_, .cons (show RelV l.2 e.val by rw [b]; exact f) g2⟩
    refine ReadsAll.cons (as := []) (bs := []) ?_ g1
    rw [← d] at a
    show Reads h e.key (keyP l.1) []
    rcases keyIs_shape a with ⟨i, t, e1, e2⟩ | ⟨x, t, e1, e2⟩
    · rw [e1, e2]; exact .int i t
    · rw [e1, e2]; exact .str x t
mutual
theorem Dr.reads {X : Cx} {pins : List (Addr × Obj)} {σ : St} {s : Shared} (m : SysM X) (I : Inv X pins σ H s) : ∀ {d : PyData} {v : V} {u : Value}, Dr X.K H v d → RelV v u → ∃ as, Reads s.heap u d as ∧ sysModules ∉ as
  | _, _, _, .non, r => by cases r; exact ⟨_, .none, by simp⟩
  | _, _, _, .bl b, r => by cases r; exact ⟨_, .bool b, by simp⟩
  | _, _, _, .int i, r => by obtain ⟨t, rfl⟩ := r; exact ⟨_, .int i t, by simp⟩
  | _, _, _, .str x, r => by obtain ⟨t, rfl⟩ := r; exact ⟨_, .str x t, by simp⟩
  | _, _, _, .lst (a := a) hs ha, r => by
    cases r
    obtain ⟨its, rv, ⟨o, n, ho, hc, _, hd⟩, _⟩ := I.list hs
    obtain ⟨as, hr, no⟩ := Drs.reads m I ha rv
    refine ⟨_, Reads.list ho hc hd hr, ?_⟩
    rw [List.mem_cons]
    rintro (e | e)
    · rcases hs with h | ⟨o', its', n', h1, h2, h3, h4, _⟩
      · exact m.rd I h e
      · exact (m.off I).2 o' (e ▸ h1) h2 ⟨_, _, h4⟩
    · exact no e
  | _, _, _, .tup hs ha, r => by
    cases r
    obtain ⟨its, rv, ⟨o, ho, hc, n, hd⟩, _⟩ := I.tuple hs
    obtain ⟨as, hr, no⟩ := Drs.reads m I ha rv
    exact ⟨_, Reads.tuple ho hc hd hr, no⟩
  | _, _, _, .dic (ls := ls) (ds := ds) hs ha, r => by
    cases r
    obtain ⟨_, _, vs, kv, o, es, ep, ho, hc, hd, _, pr, _⟩ := dk_rd I.hok hs
    obtain ⟨k1, k2⟩ := key_reads (h := s.heap) pr kv
    obtain ⟨as, hr, no⟩ := Drs.reads m I ha k2
    have hl : ds.length = ls.length := by
      have := Drs.len ha
      rw [List.length_map] at this; exact this.symm
    refine ⟨_, Reads.dict ho hc.1 hd (as := []) (bs := as) ?_ ?_, ?_⟩
    · rw [List.map_fst_zip (by rw [List.length_map, hl]; exact Nat.le_refl _)]; exact k1
    · rw [List.map_snd_zip (by rw [List.length_map, hl]; exact Nat.le_refl _)]; exact hr
    · rw [List.singleton_append, List.mem_cons]
      exact fun e => e.elim (m.rd I hs) no
theorem Drs.reads {X : Cx} {pins : List (Addr × Obj)} {σ : St} {s : Shared} (m : SysM X) (I : Inv X pins σ H s) : ∀ {ds : List PyData} {vs : List V} {us : List Value}, Drs X.K H vs ds → Vals vs us → ∃ as, ReadsAll s.heap us ds as ∧ sysModules ∉ as
  | _, _, _, .nil, r => by cases r; exact ⟨_, .nil, by simp⟩
  | _, _, _, .cons a b, .cons c d => by
    obtain ⟨as, h1, n1⟩ := Dr.reads m I a c
    obtain ⟨bs, h2, n2⟩ := Drs.reads m I b d
    exact ⟨_, .cons h1 h2, by rw [List.mem_append]; exact fun e => e.elim n1 n2⟩
theorem Drs.len {K : PySem.W.Frag} {H : Hp} : ∀ {ds : List PyData} {vs : List V}, Drs K H vs ds → vs.length = ds.length
  | _, _, .nil => rfl
  | _, _, .cons _ b => congrArg (· + 1) (Drs.len b)
end
def rRepr (K : PySem.W.Frag) : List V → Hp → VK → Prop := fun xs H Q => ∃ x p, xs = [x] ∧ Dr K H x p ∧ p.showable = true ∧ p.depth ≤ 40 ∧ p.shown.length ≤ sizeLine ∧ Q (.str p.shown) H
theorem cr_repr {X : Cx} (hu : X.A.units + 65 < cLine) (hg : X.A.guards = some []) (hm : SysM X) : CallR X (.builtin "repr") (rRepr X.K) := by
  intro pins s σ H xs us Q I rv h
  obtain ⟨x, p, rfl, dp, hs, hd, hz, q⟩ := h
  obtain ⟨u, rfl, ru⟩ := vals1 rv
  cases dp with
  | non => cases ru; exact P.repr_of_none ⟨.str _, H, I.tok _, ⟨_, rfl⟩, q⟩
  | bl b => cases ru; exact P.repr_of_bool ⟨.str _, H, I.tok _, ⟨_, rfl⟩, q⟩
  | int i =>
    obtain ⟨t, rfl⟩ := ru
    exact P.repr_of_int (of_decide_eq_true (by simpa [PyData.showable] using hs)) ⟨.str _, H, I.tok _, ⟨_, rfl⟩, q⟩
  | str z =>
    obtain ⟨t, rfl⟩ := ru
    exact P.repr_of_str ⟨.str _, H, I.tok _, ⟨_, rfl⟩, q⟩ hz
  | lst h1 h2 =>
    obtain ⟨as, r, no⟩ := Dr.reads hm I (Dr.lst h1 h2) ru
    cases ru
    exact repr_of_reads' r hs (fun _ => no) hg (by omega) (fun b o e => e) (fun h' t tk kk => ⟨.str _, H, I.kept (t' := tk) kk, ⟨_, rfl⟩, q⟩) hz
  | tup h1 h2 =>
    obtain ⟨as, r, no⟩ := Dr.reads hm I (Dr.tup h1 h2) ru
    cases ru
    exact repr_of_reads' r hs (fun _ => no) hg (by omega) (fun b o e => e) (fun h' t tk kk => ⟨.str _, H, I.kept (t' := tk) kk, ⟨_, rfl⟩, q⟩) hz
  | dic h1 h2 =>
    obtain ⟨as, r, no⟩ := Dr.reads hm I (Dr.dic h1 h2) ru
    cases ru
    exact repr_of_reads' r hs (fun _ => no) hg (by omega) (fun b o e => e) (fun h' t tk kk => ⟨.str _, H, I.kept (t' := tk) kk, ⟨_, rfl⟩, q⟩) hz

def rLen (K : PySem.W.Frag) : List V → Hp → VK → Prop := fun xs H Q => (∃ x n, xs = [x] ∧ LenV K x H n ∧ Q (.int n) H) ∨ ∃ p kvs, xs = [.ref p] ∧ Rd H p (.dK kvs) ∧ Q (.int kvs.length) H
/-- a built-in as a value -/
def Bt.val : Bt → Value
  | .int => .type "int" | .tuple => .type "tuple" | .list => .type "list" | .str => .type "str" | .dict => .type "dict" | .sorted => .builtin "sorted"
  | .len => .builtin "len" | .sum => .builtin "sum" | .max => .builtin "max" | .min => .builtin "min" | .any => .builtin "any" | .all => .builtin "all" | .repr => .builtin "repr" | .abs => .builtin "abs"
def rInt1 : List V → Hp → VK → Prop := fun xs H Q => (∃ i, xs = [.int i] ∧ Q (.int i) H) ∨ ∃ k, xs = [.bl k] ∧ Q (.int (if k then 1 else 0)) H
def rListDK : List V → Hp → VK → Prop := fun xs H Q => ∃ (a : Addr) (kvs : List (Key × V)), xs = [.ref a] ∧ Rd H a (.dK kvs) ∧ ∀ p, H p = none → Q (.ref p) (upd H p (.lst (kvs.map fun kv => kV kv.1)))
def rDictDK : List V → Hp → VK → Prop := fun xs H Q => ∃ (a : Addr) (kvs : List (Key × V)), xs = [.ref a] ∧ Rd H a (.dK kvs) ∧ ∀ p, H p = none → Q (.ref p) (upd H p (.dK kvs))
def rDictP (K : PySem.W.Frag) : List V → Hp → VK → Prop := fun xs H Q => ∃ (a : Addr) (ps : List Addr) (kvs : List (Key × V)), xs = [.ref a] ∧ SqL K H a (ps.map V.ref) ∧ Paired (fun p kv => SqT K H p [kV kv.1, kv.2]) ps kvs ∧
  ∀ p, H p = none → Q (.ref p) (upd H p (.dK (mergeK [] kvs)))
def rSortDI : List V → Hp → VK → Prop := fun xs H Q => ∃ (a : Addr) (kvs : List (Key × V)) (ks : List Int), xs = [.ref a] ∧ Rd H a (.dK kvs) ∧ kvs.map (·.1) = ks.map Sum.inl ∧ ks.length < 64 ∧
    ∀ (ys : List Int) (p : Addr), ys.Perm ks → ys.Pairwise (· ≤ ·) → H p = none → Q (.ref p) (upd H p (.lst (ys.map V.int)))
def rSortDS : List V → Hp → VK → Prop := fun xs H Q => ∃ (a : Addr) (kvs : List (Key × V)) (ks : List Str), xs = [.ref a] ∧ Rd H a (.dK kvs) ∧ kvs.map (·.1) = ks.map Sum.inr ∧ ks.length < 64 ∧
    ∀ ys p, ys.Perm ks → PyProof.Rows.sortedS ys = true → H p = none → Q (.ref p) (upd H p (.lst (ys.map V.str)))
def rB (K : PySem.W.Frag) : Bt → List V → Hp → VK → Prop
  | .len => rLen K
  | .int => rInt1
  | .tuple => fun xs H Q => ∃ p ys, xs = [.ref p] ∧ ((SqL K H p ys ∧ ∀ l, H l = none → Q (.ref l) (upd H l (.tup ys))) ∨ (SqT K H p ys ∧ Q (.ref p) H))
  | .list => fun xs H Q => (∃ p ys, xs = [.ref p] ∧ (SqL K H p ys ∨ SqT K H p ys) ∧ ∀ l, H l = none → Q (.ref l) (upd H l (.lst ys))) ∨ rListDK xs H Q
  | .dict => fun xs H Q => rDictDK xs H Q ∨ rDictP K xs H Q
  | .sorted => fun xs H Q => (rSortedI K xs H Q ∨ rSortedS K xs H Q) ∨ (rSortDI xs H Q ∨ rSortDS xs H Q)
  | .str => fun xs H Q => ∃ i, xs = [.int i] ∧ i.natAbs.log2 < 1920 ∧ Q (.str (toString i)) H
  | .sum => rSum K
  | .max => fun xs H Q => (∃ i j, xs = [.int i, .int j] ∧ Q (.int (if j > i then j else i)) H) ∨ rMax K xs H Q
  | .min => fun xs H Q => (∃ i j, xs = [.int i, .int j] ∧ Q (.int (if j < i then j else i)) H) ∨ rMin K xs H Q
  | .any => rAny K
  | .all => rAll K
  | .repr => rRepr K
  | .abs => fun xs H Q => ∃ i, xs = [.int i] ∧ Q (.int (if i < 0 then -i else i)) H
/-- the number of keys, also while the dict is walked -/
theorem call_lenR {X : Cx} : CallR X (.builtin "len") (fun xs H Q => ∃ p kvs, xs = [V.ref p] ∧ Rd H p (.dK kvs) ∧ Q (.int kvs.length) H) := fun pins s σ H xs us Q I r ⟨p, kvs, e, rd, q⟩ => by
  subst e
  obtain ⟨u, e2, ru⟩ := vals1 r
  subst e2
  cases ru
  exact d_len I rd fun t s2 I2 => ⟨.int kvs.length, H, I2, ⟨t, rfl⟩, q⟩
theorem cr_all' {X : Cx} (hc : X.calm = true) (hu : X.A.units + 65 < cLine) (hg : X.A.guards = some []) (hm : SysM X) (f : Bt) : CallR X f.val (Mp.rB X.K f) := by
  cases f with
  | len => exact call_len.or call_lenR
  | int => exact call_int1
  | tuple => exact call_tuple_of
  | list => exact call_list_of.or (call_listD hc)
  | dict => exact call_dictD.or (call_dictP hc)
  | sorted => exact (cr_sortedI.or cr_sortedS).or ((call_sortedDI hc).or (call_sortedD hc))
  | str => exact call_str_int
  | sum => exact cr_sum hc
  | max => exact (call_max2 hc).or (cr_max hc)
  | min => exact (call_min2 hc).or (cr_min hc)
  | any => exact cr_any hc
  | all => exact cr_all hc
  | repr => exact cr_repr hu hg hm
  | abs => exact call_abs
theorem pLen_ok (r : RS K S H) {x : D} {v : V} (rx : RD K H x v) (k : Kp K S H Q' Q) (h : pLen x S Q') : rLen K [v] H Q := by
  cases rx with
  | str z => exact .inl ⟨_, _, rfl, ⟨h.1, rfl⟩, k.at r (.int _) h.2⟩
  | tup e q => exact .inl ⟨_, _, rfl, .inr ⟨_, .of e, rfl⟩, by rw [← q.length]; exact k.at r (.int _) h⟩
  | scr e => exact .inl ⟨_, _, rfl, .inl ⟨_, e.sq, rfl⟩, by rw [List.length_map]; exact k.at r (.int _) h⟩
  | ref a =>
    unfold pLen at h
    dsimp only at h
    split at h
    · rename_i e
      obtain ⟨vs, z, q⟩ := r _ _ e
      exact .inr ⟨_, _, rfl, .inl z, by rw [← Paired.length q]; exact k.at r (.int _) h⟩
    · rename_i e
      obtain ⟨vs, z, q⟩ := r.lst e
      exact .inl ⟨_, _, rfl, .inl ⟨_, .of z, rfl⟩, by rw [← q.length]; exact k.at r (.int _) h⟩
    · rename_i e
      obtain ⟨o, vs, z, q⟩ := r _ _ e
      exact .inr ⟨_, _, rfl, .inr ⟨o, z⟩, by rw [← Paired.length q]; exact k.at r (.int _) h⟩
    · exact h.elim
  | _ => exact h.elim
theorem one_of {f : Bt} {x : D} {v : V} (rx : RD K H x v) : ∀ {us : List V}, RDs K H [x] us → ∃ u, us = [u] ∧ RD K H x u
  | _, .cons a .nil => ⟨_, rfl, a⟩
theorem seqOf_ok (r : RS K S H) {x : D} {v : V} {u : List D} (rx : RD K H x v) (h : seqOf x S = some u) : ∃ p ys, v = .ref p ∧ RDs K H u ys ∧ (SqL K H p ys ∨ SqT K H p ys) := by
  cases rx with
  | tup e q => cases h; exact ⟨_, _, rfl, q, .inr (.of e)⟩
  | scr e => cases h; exact ⟨_, _, rfl, RDs.ints _, .inl e.sq⟩
  | ref a =>
    unfold seqOf at h
    dsimp only at h
    split at h
    · rename_i e
      obtain ⟨vs, z, q⟩ := r.lst e
      cases h
      exact ⟨_, _, rfl, q, .inl (.of z)⟩
    · cases h
  | _ => cases h
/-- a new dict -/
theorem Kp.dic (k : Kp K S H Q' Q) (r : RS K S H) {kvs : List (Key × D)} {ls : List (Key × V)} (q : RKv K H kvs ls) (h : pNew (.dic kvs) S Q') : ∀ p, H p = none → Q (.ref p) (upd H p (.dK ls)) := fun p hp =>
  k _ _ _ _ (Fr.new r hp (.dK ls) (.dic kvs)) (r.new hp ⟨ls, upd_same, RKv.stay (stay_new hp _) q⟩) (.ref p) (h p (r.fresh hp))
theorem RKv.keys : ∀ {kvs : List (Key × D)} {ls : List (Key × V)}, RKv K H kvs ls → RDs K H (kvs.map fun kv => kD kv.1) (ls.map fun kv => kV kv.1)
  | _, _, .nil => .nil
  | _, _, .cons (a := a) (b := b) h t => by
    rw [List.map_cons, List.map_cons, ← h.1]
    exact .cons (kD_rd _) (RKv.keys t)
theorem RKv.ints : ∀ {kvs : List (Key × D)} {ls : List (Key × V)} {ns : List Int}, RKv K H kvs ls → intsOf (kvs.map fun kv => kD kv.1) = some ns → ls.map (·.1) = ns.map Sum.inl
  | _, _, ns, .nil, e => by cases e; rfl
  | _, _, ns, .cons (a := a) (b := b) (l₁ := as) h t, e => by
    rw [List.map_cons] at e
    rw [List.map_cons, ← h.1]
    cases ek : a.1 with
    | inl i =>
      rw [ek] at e
      have e : (intsOf (as.map fun kv => kD kv.1)).map (i :: ·) = some ns := e
      cases q : intsOf (as.map fun kv => kD kv.1) with
      | none => rw [q] at e; cases e
      | some l => rw [q] at e; cases e; rw [RKv.ints t q]; rfl
    | inr x => rw [ek] at e; cases e
theorem RKv.strs : ∀ {kvs : List (Key × D)} {ls : List (Key × V)} {ns : List Str}, RKv K H kvs ls → strsOf (kvs.map fun kv => kD kv.1) = some ns → ls.map (·.1) = ns.map Sum.inr
  | _, _, ns, .nil, e => by cases e; rfl
  | _, _, ns, .cons (a := a) (b := b) (l₁ := as) h t, e => by
    rw [List.map_cons] at e
    rw [List.map_cons, ← h.1]
    cases ek : a.1 with
    | inr i =>
      rw [ek] at e
      have e : (strsOf (as.map fun kv => kD kv.1)).map (i :: ·) = some ns := e
      cases q : strsOf (as.map fun kv => kD kv.1) with
      | none => rw [q] at e; cases e
      | some l => rw [q] at e; cases e; rw [RKv.strs t q]; rfl
    | inl x => rw [ek] at e; cases e
theorem RDs.strsOf : ∀ {ds : List D} {vs : List V} {ns : List Str}, RDs K H ds vs → Mp.strsOf ds = some ns → vs = ns.map V.str
  | _, _, ns, .nil, e => by cases e; rfl
  | _, _, ns, .cons (d := d) (ds := ds) a b, e => by
    cases a with
    | str i =>
      unfold Mp.strsOf at e
      cases q : Mp.strsOf ds with
      | none => rw [q] at e; cases e
      | some l => rw [q] at e; cases e; rw [RDs.strsOf b q]; rfl
    | _ => simp [Mp.strsOf] at e
theorem RDs.strs : ∀ (ns : List Str), RDs K H (ns.map D.str) (ns.map V.str)
  | [] => .nil
  | n :: r => .cons (.str n) (RDs.strs r)
/-- what list() and sorted() walk -/
theorem walkOf_ok (r : RS K S H) {x : D} {v : V} {u : List D} (rx : RD K H x v) (h : walkOf x S = some u) :
    (∃ p ys, v = .ref p ∧ RDs K H u ys ∧ (SqL K H p ys ∨ SqT K H p ys) ∧ seqOf x S = some u) ∨ ∃ a kvs ls, x = .ref a ∧ v = .ref a ∧ u = kvs.map (fun kv => kD kv.1) ∧ RKv K H kvs ls ∧ Rd H a (.dK ls) ∧ (S a = some (.dic kvs) ∨ S a = some (.lck kvs)) := by
  unfold walkOf at h
  split at h
  · split at h
    · rename_i e
      cases h
      obtain ⟨ls, z, q⟩ := r _ _ e
      cases rx
      exact .inr ⟨_, _, ls, rfl, rfl, rfl, q, .inl z, .inl e⟩
    · rename_i e
      cases h
      obtain ⟨o, ls, z, q⟩ := r _ _ e
      cases rx
      exact .inr ⟨_, _, ls, rfl, rfl, rfl, q, .inr ⟨o, z⟩, .inr e⟩
    · obtain ⟨p, ys, a, b, c⟩ := seqOf_ok r rx h
      exact .inl ⟨p, ys, a, b, c, h⟩
  · obtain ⟨p, ys, a, b, c⟩ := seqOf_ok r rx h
    exact .inl ⟨p, ys, a, b, c, h⟩
theorem tupP_ok : ∀ {u l : List D} {vs : List V} {ps : List (Key × D)}, RDs K H u vs → tupP u = some l → pairsOf l = some ps → ∃ (as : List Addr) (kvs : List (Key × V)), vs = as.map V.ref ∧ Paired (fun p kv => SqT K H p [kV kv.1, kv.2]) as kvs ∧ RKv K H ps kvs
  | [], _, _, _, .nil, e1, e2 => by
    cases e1; cases e2
    exact ⟨[], [], rfl, .nil, .nil⟩
  | x :: r, l, _, ps, .cons a b, e1, e2 => by
    unfold tupP at e1
    split at e1
    · rename_i k v l' e3
      cases e1
      unfold pairsOf at e2
      split at e2
      · rename_i key pr h1 h2
        cases e2
        obtain ⟨as, kvs, rfl, p, q⟩ := tupP_ok b e3 h2
        cases a with
        | tup e z =>
          cases z with
          | cons z1 z2 =>
            cases z2 with
            | cons z2 z3 =>
              cases z3
              have := kV_of h1 z1
              subst this
              exact ⟨_ :: as, (key, _) :: kvs, rfl, .cons (.of e) p, .cons ⟨rfl, z2⟩ q⟩
      · cases e2
    · cases e1
theorem pB_ok (r : RS K S H) {f : Bt} {xs : List D} {vs : List V} (rx : RDs K H xs vs) (k : Kp K S H Q' Q) (h : pB f xs S Q') : Mp.rB K f vs H Q := by
  unfold pB at h
  split at h
  · cases rx with
    | cons a b => cases b; exact pLen_ok r a k h
  · cases rx with
    | cons a b => cases b; cases a; exact .inl ⟨_, rfl, k.at r (.int _) h⟩
  · cases rx with
    | cons a b => cases b; cases a; exact .inr ⟨_, rfl, k.at r (.int _) h⟩
  · cases rx with
    | cons a b => cases b; cases a; exact ⟨_, rfl, k.at r (.int _) h⟩
  · cases rx with
    | cons a b => cases b; cases a; exact ⟨_, rfl, h.1, k.at r (.str _) h.2⟩
  · cases rx with
    | cons a b => cases b with
      | cons b c => cases c; cases a; cases b; exact .inl ⟨_, _, rfl, k.at r (.int _) h⟩
  · cases rx with
    | cons a b => cases b with
      | cons b c => cases c; cases a; cases b; exact .inl ⟨_, _, rfl, k.at r (.int _) h⟩
  · rename_i x
    obtain ⟨u, e, h⟩ := h
    cases rx with
    | cons a b =>
      cases b
      -- a tuple is itself
      cases a with
      | tup e' q => cases e; exact ⟨_, _, rfl, .inr ⟨.of e', k.at r (.tup e' q) h⟩⟩
      | scr e' => cases e; exact ⟨_, _, rfl, .inl ⟨e'.sq, k.tup r (RDs.ints _) h⟩⟩
      | ref a =>
        unfold seqOf at e
        dsimp only at e
        split at e
        · rename_i e'
          obtain ⟨vs, z, q⟩ := r.lst e'
          cases e
          exact ⟨_, _, rfl, .inl ⟨.of z, k.tup r q h⟩⟩
        · cases e
      | _ => cases e
  · obtain ⟨u, e, h⟩ := h
    cases rx with
    | cons a b =>
      cases b
      rcases walkOf_ok r a e with ⟨p, ys, rfl, q, sq, _⟩ | ⟨ad, kvs, ls, rfl, rfl, rfl, q, rd, _⟩
      · exact .inl ⟨p, ys, rfl, sq, k.lst r q h⟩
      · exact .inr ⟨ad, ls, rfl, rd, k.lst r q.keys h⟩
  · obtain ⟨u, e, h⟩ := h
    cases rx with
    | cons a b =>
      cases b
      rcases walkOf_ok r a e with ⟨p, ys, rfl, q, sq, es⟩ | ⟨ad, kvs, ls, e1, rfl, rfl, q, rd, hd⟩
      · cases a
        unfold seqOf at es
        dsimp only at es
        split at es
        · rename_i e'
          cases es
          obtain ⟨vs, z, q⟩ := r.lst e'
          rcases h with ⟨ns, hn, _, h⟩ | ⟨ns, hn, hl, h⟩
          · rw [q.intsOf hn] at z
            exact .inl (.inl ⟨_, ns, rfl, .of z, fun ms l hp hw hl => k.lst r (RDs.ints ms) (h ms hp hw) l hl⟩)
          · rw [q.strsOf hn] at z
            exact .inl (.inr ⟨_, ns, rfl, .of z, hl, fun ms l hp hw hl => k.lst r (RDs.strs ms) (h ms hp hw) l hl⟩)
        · cases es
      · cases e1
        rcases h with ⟨ns, hn, hc, h⟩ | ⟨ns, hn, hl, h⟩
        · have hl : ns.length < 64 := by
            rcases hc with ⟨v, hc⟩ | hc
            · rcases hd with hd | hd <;> rw [hd] at hc <;> cases hc
            · exact hc
          exact .inr (.inl ⟨_, ls, ns, rfl, rd, q.ints hn, hl, fun ms l hp hw hl => k.lst r (RDs.ints ms) (h ms hp hw) l hl⟩)
        · exact .inr (.inr ⟨_, ls, ns, rfl, rd, q.strs hn, hl, fun ms l hp hw hl => k.lst r (RDs.strs ms) (h ms hp hw) l hl⟩)
  · cases rx with
    | cons a b =>
      cases b; cases a
      split at h
      · rename_i e
        obtain ⟨ls, z, q⟩ := r _ _ e
        exact .inl ⟨_, ls, rfl, .inl z, k.dic r q h⟩
      · rename_i e
        obtain ⟨o, ls, z, q⟩ := r _ _ e
        exact .inl ⟨_, ls, rfl, .inr ⟨o, z⟩, k.dic r q h⟩
      · rename_i e
        obtain ⟨vs, z, q⟩ := r.lst e
        obtain ⟨l, ps, h1, h2, h⟩ := h
        obtain ⟨as, kvs, rfl, p, q⟩ := tupP_ok q h1 h2
        exact .inr ⟨_, as, kvs, rfl, .of z, p, k.dic r (RKv.merge q .nil) h⟩
      · exact h.elim
  · obtain ⟨u, ns, e, e', h⟩ := h
    cases rx with
    | cons a b =>
      cases b; cases a
      obtain ⟨vs, z, q⟩ := r.lst e
      rw [q.intsOf e'] at z
      exact ⟨_, ns, rfl, .of z, k.at r (.int _) h⟩
  · obtain ⟨u, ns, m, e, e', ⟨hm, hm'⟩, h⟩ := h
    cases rx with
    | cons a b =>
      cases b; cases a
      obtain ⟨vs, z, q⟩ := r.lst e
      rw [q.intsOf e'] at z
      refine .inr ⟨_, ns, rfl, .of z, List.length_pos_of_mem hm, fun m' h1 h2 => ?_⟩
      have : m' = m := Int.le_antisymm (hm' _ h1) (h2 _ hm)
      subst this
      exact k.at r (.int _) h
  · obtain ⟨u, ns, m, e, e', ⟨hm, hm'⟩, h⟩ := h
    cases rx with
    | cons a b =>
      cases b; cases a
      obtain ⟨vs, z, q⟩ := r.lst e
      rw [q.intsOf e'] at z
      refine .inr ⟨_, ns, rfl, .of z, List.length_pos_of_mem hm, fun m' h1 h2 => ?_⟩
      have : m' = m := Int.le_antisymm (h2 _ hm) (hm' _ h1)
      subst this
      exact k.at r (.int _) h
  · obtain ⟨u, ns, e, e', h⟩ := h
    cases rx with
    | cons a b =>
      cases b; cases a
      obtain ⟨vs, z, q⟩ := r.lst e
      rw [q.blsOf e'] at z
      exact ⟨_, ns, rfl, .of z, k.at r (.bl _) h⟩
  · obtain ⟨u, ns, e, e', h⟩ := h
    cases rx with
    | cons a b =>
      cases b; cases a
      obtain ⟨vs, z, q⟩ := r.lst e
      rw [q.blsOf e'] at z
      exact ⟨_, ns, rfl, .of z, k.at r (.bl _) h⟩
  · obtain ⟨p, e, h1, h2, h3, h⟩ := h
    cases rx with
    | cons a b =>
      cases b
      exact ⟨_, p, rfl, Psh.dr r e a, h1, h2, h3, k.at r (.str _) h⟩
  · exact h.elim
/-! ### methods -/
theorem set_list_ok (r : RS K S H) {p : Addr} {ds ds' : List D} {vs' : List V} (e : S p = some (.lst ds)) (q : RDs K H ds' vs') : RS K (S.put p (.lst ds')) (upd H p (.lst vs')) ∧ Fr S H (S.put p (.lst ds')) (upd H p (.lst vs')) :=
  ⟨r.set e ⟨vs', upd_same, q.stay (stay_set r e _)⟩, Fr.set e (fun _ z => nomatch z) _ _⟩
/-- a method by the receiver's value -/
def rM (K : PySem.W.Frag) : Mt → V → List V → Hp → VK → Prop
  | .append => rAppend
  | .extend => rExtend
  | .pop => rPop
  | .index => fun x xs H Q => rIndex K x xs H Q ∨ rIndexD K x xs H Q
  | .get => fun _ _ _ _ => False
theorem pM_ok (r : RS K S H) {m : Mt} {x : D} {v : V} {xs : List D} {vs : List V} (rx : RD K H x v) (rs : RDs K H xs vs) (k : Kp K S H Q' Q) (h : pM m x xs S Q') : rM K m v vs H Q := by
  unfold pM at h
  split at h
  · cases rx
    cases rs with
    | cons a b =>
      cases b
      split at h
      · rename_i e
        obtain ⟨us, z, q⟩ := r.lst e
        obtain ⟨r', f'⟩ := set_list_ok r e (q.append (.cons a .nil))
        exact ⟨_, us, _, rfl, rfl, z, by rw [← q.length]; exact h.1, k _ _ _ _ f' r' .non h.2⟩
      · exact h.elim
  · cases rx
    cases rs with
    | cons a b =>
      cases b
      cases a
      split at h
      · rename_i e e'
        obtain ⟨us, z, q⟩ := r.lst e
        obtain ⟨ws, z', q'⟩ := r.lst e'
        obtain ⟨r', f'⟩ := set_list_ok r e (q.append q')
        exact ⟨_, _, us, ws, rfl, rfl, z, z', by rw [← q.length, ← q'.length]; exact h.1, k _ _ _ _ f' r' .non h.2⟩
      · exact h.elim
  · cases rx
    cases rs
    split at h
    · rename_i e
      obtain ⟨us, z, q⟩ := r.lst e
      obtain ⟨y, hy, h⟩ := h
      obtain ⟨w, hw, ry⟩ := q.get hy
      obtain ⟨r', f'⟩ := set_list_ok r e q.dropLast
      exact ⟨_, us, w, rfl, rfl, z, by rw [← q.length]; exact hw, k _ _ _ _ f' r' (ry.stay (stay_set r e _)) h⟩
    · exact h.elim
  · cases rx
    cases rs with
    | cons a b =>
      cases b
      split at h
      · rename_i u e
        obtain ⟨us, z, q⟩ := r.lst e
        obtain ⟨j, zd, hj, hc, h⟩ := h
        obtain ⟨w, hw, rw'⟩ := q.get hj
        have getB : ∀ {m : Nat} {w : V}, us[m]? = some w → ∃ d, _ := fun {m w} hm => q.getV (i := m) (v := w) hm
        rcases hc with ⟨f1, f2, h1, h2⟩ | ⟨p, ps, pq, g1, g2, s1, s2, h1, h2, h3⟩
        · obtain ⟨e1, f1'⟩ := toV_of a f1
          obtain ⟨e2, f2'⟩ := toVs_of q f2
          have fl : ∀ {m : Nat} {d : D} {w : V}, u[m]? = some d → us[m]? = some w → w = d.toV := fun {m d w} hd hm => by
            rw [e2, List.getElem?_map, hd] at hm; exact (Option.some.inj hm).symm
          refine .inl ⟨_, us, _, j, w, rfl, rfl, .of z, f1', f2', hw, by rw [e1, fl hj hw]; exact h1, fun m w' hm hw' => ?_, k.at r (.int _) h⟩
          obtain ⟨d, hd, _⟩ := q.getV hw'
          rw [e1, fl hd hw']
          exact h2 m d hm hd
        · exact .inr ⟨_, _, p, ps, j, pq, rfl, rfl, .lst (.of z) (Pds.dp r g2 q), Pd.dp r g1 a, s2, s1, h1, h2, h3, k.at r (.int _) h⟩
      · exact h.elim
  · exact h.elim
end
end Mp

namespace Mp
open PySem L2 PySem.Spec PyProof.Rows

/-! ## expressions: each rule of the layer, for the language's meaning -/
abbrev X0 : XPost := fun _ _ _ => False
def tE (K : PySem.W.Frag) (Wf : Callee) (G : Str → Option Str) (m : E) : TE := fun τ H Q => ∃ σ S Q', RSl K H σ τ ∧ RS K S H ∧ wpE Wf G m σ S X0 Q' ∧ Kp K S H Q' Q
def tT (K : PySem.W.Frag) (Wf : Callee) (G : Str → Option Str) (m : E) : TT := fun τ H Q => ∃ (σ : Sl) (S : Sto) (Q' : Bool → Sto → Prop), RSl K H σ τ ∧ RS K S H ∧ wpE Wf G m σ S X0 (fun d S1 => ∃ b, d = .bl b ∧ Q' b S1) ∧
  ∀ b S' H', Fr S H S' H' → RS K S' H' → Q' b S' → Q b H'
def tEs (K : PySem.W.Frag) (Wf : Callee) (G : Str → Option Str) (ms : List E) : TA := fun τ H Q => ∃ (σ : Sl) (S : Sto) (Q' : List D → Sto → Prop), RSl K H σ τ ∧ RS K S H ∧ wpEs Wf G ms σ S X0 Q' ∧
  ∀ ds S' vs H', ds.length = ms.length → Fr S H S' H' → RS K S' H' → RDs K H' ds vs → Q' ds S' → Q vs H'
def tO (K : PySem.W.Frag) (Wf : Callee) (G : Str → Option Str) (ms : List E) : TO := fun τ H Q => ∃ (σ : Sl) (S : Sto) (Q' : Option Int → Sto → Prop), RSl K H σ τ ∧ RS K S H ∧ wpEs Wf G ms σ S X0 (fun l S1 => ∃ i, partOf l = some i ∧ Q' i S1) ∧
  ∀ i S' H', Fr S H S' H' → RS K S' H' → Q' i S' → Q i H'
theorem PE.imp {X : Cx} {e : Expr} {t t' : TE} (h : PE X e t) (f : ∀ σ H Q, t' σ H Q → t σ H Q) : PE X e t' := ⟨fun pins s σ H Q I q => h.run pins s σ H Q I (f σ H Q q)⟩
theorem PT.imp {X : Cx} {e : Expr} {t t' : TT} (h : PT X e t) (f : ∀ σ H Q, t' σ H Q → t σ H Q) : PT X e t' := ⟨fun pins s σ H Q I q => h.run pins s σ H Q I (f σ H Q q)⟩
theorem PW.imp {X : Cx} {e : Expr} {t t' : TT} (h : PW X e t) (f : ∀ σ H Q, t' σ H Q → t σ H Q) : PW X e t' := ⟨fun wh pins s σ H Q I q => h.run wh pins s σ H Q I (f σ H Q q)⟩
theorem PA.imp {X : Cx} {e : List Expr} {t t' : TA} (h : PA X e t) (f : ∀ σ H Q, t' σ H Q → t σ H Q) : PA X e t' := ⟨fun p pins s σ H Q I q => h.run p pins s σ H Q I (f σ H Q q)⟩
theorem PO.imp {X : Cx} {e : Option Expr} {t t' : TO} (h : PO X e t) (f : ∀ σ H Q, t' σ H Q → t σ H Q) : PO X e t' := ⟨fun pins s σ H Q I q => h.run pins s σ H Q I (f σ H Q q)⟩
theorem PTs.imp {X : Cx} {e : List Expr} {t t' : TT} (h : PTs X e t) (f : ∀ σ H Q, t' σ H Q → t σ H Q) : PTs X e t' := ⟨fun pins s σ H Q I q => h.run pins s σ H Q I (f σ H Q q)⟩

/-! ### the language's meaning is monotone where it must be -/
section
variable {X : Cx} {Wf : Callee} {G : Str → Option Str} {a b c e : Expr} {x y z : E} {pos : Pos}

theorem se_const {e : Expr} {v : V} {d : D} {m : E} (h : PE X e (tC v)) (hm : ∀ σ S Q, wpE Wf G m σ S X0 Q → Q d S) (q : ∀ H, RD X.K H d v) : PE X e (tE X.K Wf G m) :=
  PE.imp h fun τ H Q ⟨σ, S, Q', rs, r, w, k⟩ => k.at r (q H) (hm _ _ _ w)
theorem se_non {j : Nat} : PE X (.Constant .none j pos) (tE X.K Wf G .non) := se_const pe_non (fun _ _ _ w => by simpa only [wpE] using w) fun _ => .non
theorem se_bl {k : Bool} {j : Nat} : PE X (.Constant (.bool k) j pos) (tE X.K Wf G (.bl k)) := se_const pe_bl (fun _ _ _ w => by simpa only [wpE] using w) fun _ => .bl _
theorem se_int {i : Int} {j : Nat} : PE X (.Constant (.int i) j pos) (tE X.K Wf G (.int i)) := se_const pe_int (fun _ _ _ w => by simpa only [wpE] using w) fun _ => .int _
theorem se_str {u : Str} {j : Nat} : PE X (.Constant (.str u) j pos) (tE X.K Wf G (.str u)) := se_const pe_str (fun _ _ _ w => by simpa only [wpE] using w) fun _ => .str _
theorem se_var {i : Nat} {u : Str} (hN : X.N[i]? = some u) (hv : Vis X.env.scope u) (hd : (u == ("__debug__" : Str)) = false) (hc : (u == ("__classdict__" : Str)) = false) : PE X (.Name u pos) (tE X.K Wf G (.v i)) :=
  PE.imp (pe_var hN hv hd hc) fun τ H Q ⟨σ, S, Q', rs, r, w, k⟩ => by
    simp only [wpE] at w
    obtain ⟨d, e, w⟩ := w
    obtain ⟨v, z, q⟩ := rs.2 i d e
    exact ⟨v, z, k.at r q w⟩
theorem se_glob {u : Str} (hg : Gl X u) (hm : ∀ z, G u = some z → ∃ w, X.mg u = some w ∧ RelV (.str z) w) (hd : (u == ("__debug__" : Str)) = false) : PE X (.Name u pos) (tE X.K Wf G (.g u)) := by
  cases e : G u with
  | none =>
    refine ⟨fun pins s σ H Q I ⟨τ, S, Q', rs, r, w, k⟩ => ?_⟩
    simp only [wpE] at w
    obtain ⟨z, h, _⟩ := w
    rw [e] at h; cases h
  | some z =>
    obtain ⟨w, h1, h2⟩ := hm z e
    refine PE.imp (pe_glob hg h1 h2 hd) fun τ H Q ⟨σ, S, Q', rs, r, w, k⟩ => ?_
    simp only [wpE] at w
    obtain ⟨z', h, w⟩ := w
    rw [e] at h; cases h
    exact k.at r (.str _) w
/-- one part, then the rest -/
theorem tE.mk {K : PySem.W.Frag} {Wf : Callee} {G : Str → Option Str} {m : E} {τ : L2.St} {H : Hp} {Q : VK} {σ : Sl} {S : Sto} {Q' : Post} (rs : RSl K H σ τ) (r : RS K S H) (w : wpE Wf G m σ S X0 Q')
    (k : ∀ d S' v H', Fr S H S' H' → RS K S' H' → RD K H' d v → Q' d S' → Q v H') : tE K Wf G m τ H Q := ⟨σ, S, Q', rs, r, w, k⟩
theorem se_bin {o : Operator} (ho : opOk o = true) (ha : PE X a (tE X.K Wf G x)) (hb : PE X b (tE X.K Wf G y)) : PE X (.BinOp a o b pos) (tE X.K Wf G (.bin o x y)) :=
  PE.imp (pe_op (op_bin ho) ha hb) fun τ H Q ⟨σ, S, Q', rs, r, w, k⟩ => by
    simp only [wpE] at w
    exact tE.mk rs r w fun d S1 v H1 f1 r1 q1 w1 => tE.mk (rs.stay (f1.stay r)) r1 w1 fun d2 S2 u H2 f2 r2 q2 w2 => pBin_ok r2 (q1.stay (f2.stay r1)) q2 (k.on (f1.trans f2)) w2
theorem se_neg (ha : PE X a (tE X.K Wf G x)) : PE X (.UnaryOp .USub a pos) (tE X.K Wf G (.neg x)) :=
  PE.imp (pe_un un_neg ha) fun τ H Q ⟨σ, S, Q', rs, r, w, k⟩ => by
    simp only [wpE] at w
    refine tE.mk rs r w fun d S1 v H1 f1 r1 q1 w1 => ?_
    obtain ⟨i, rfl, w1⟩ := w1
    cases q1
    exact ⟨i, rfl, (k.on f1).at r1 (.int _) w1⟩
/-- not, of a value by its truth -/
theorem se_notV (ha : PE X a (tE X.K Wf G x)) : PE X (.UnaryOp .Not a pos) (tE X.K Wf G (.not (.tru x))) :=
  PE.imp (pe_notT ha) fun τ H Q ⟨σ, S, Q', rs, r, w, k⟩ => by
    simp only [wpE] at w
    refine tE.mk rs r w fun d S1 v H1 f1 r1 q1 w1 => ?_
    obtain ⟨b, hb, w1⟩ := pTru_ok r1 q1 w1
    obtain ⟨c, e, w1⟩ := w1
    cases e
    exact ⟨b, hb, (k.on f1).at r1 (.bl _) w1⟩
theorem se_one {o : BoolOp} (ha : PE X a (tE X.K Wf G x)) : PE X (.BoolOp o [a] pos) (tE X.K Wf G x) := pe_one ha
theorem se_and {es : List Expr} (ha : PE X a (tE X.K Wf G x)) (hb : PE X (.BoolOp .And (b :: es) pos) (tE X.K Wf G y)) : PE X (.BoolOp .And (a :: b :: es) pos) (tE X.K Wf G (.and x y)) :=
  PE.imp (pe_and ha hb) fun τ H Q ⟨σ, S, Q', rs, r, w, k⟩ => by
    simp only [wpE] at w
    refine tE.mk rs r w fun d S1 v H1 f1 r1 q1 w1 => ?_
    obtain ⟨c, rfl, w1⟩ := w1
    cases q1
    refine ⟨c, rfl, ?_⟩
    cases c with
    | true => rw [if_pos rfl] at w1 ⊢; exact tE.mk (rs.stay (f1.stay r)) r1 w1 (k.on f1)
    | false => rw [if_neg Bool.false_ne_true] at w1 ⊢; exact (k.on f1).at r1 (.bl _) w1
theorem se_or {es : List Expr} (ha : PE X a (tE X.K Wf G x)) (hb : PE X (.BoolOp .Or (b :: es) pos) (tE X.K Wf G y)) : PE X (.BoolOp .Or (a :: b :: es) pos) (tE X.K Wf G (.or x y)) :=
  PE.imp (pe_or ha hb) fun τ H Q ⟨σ, S, Q', rs, r, w, k⟩ => by
    simp only [wpE] at w
    refine tE.mk rs r w fun d S1 v H1 f1 r1 q1 w1 => ?_
    obtain ⟨c, rfl, w1⟩ := w1
    cases q1
    refine ⟨c, rfl, ?_⟩
    cases c with
    | false => rw [if_neg Bool.false_ne_true] at w1 ⊢; exact tE.mk (rs.stay (f1.stay r)) r1 w1 (k.on f1)
    | true => rw [if_pos rfl] at w1 ⊢; exact (k.on f1).at r1 (.bl _) w1
theorem se_ifE (hc : PT X c (tT X.K Wf G z)) (ha : PE X a (tE X.K Wf G x)) (hb : PE X b (tE X.K Wf G y)) : PE X (.IfExp c a b pos) (tE X.K Wf G (.ite z x y)) :=
  PE.imp (pe_ifExp hc ha hb) fun τ H Q ⟨σ, S, Q', rs, r, w, k⟩ => by
    simp only [wpE] at w
    refine ⟨σ, S, _, rs, r, w, fun c S1 H1 f1 r1 w1 => ?_⟩
    cases c with
    | true => rw [if_pos rfl] at w1 ⊢; exact tE.mk (rs.stay (f1.stay r)) r1 w1 (k.on f1)
    | false => rw [if_neg Bool.false_ne_true] at w1 ⊢; exact tE.mk (rs.stay (f1.stay r)) r1 w1 (k.on f1)
theorem se_cmp {o : CmpOp} (hu : X.A.units + 65 < cLine) (hm : behindInMarks o b = false) (ha : PE X a (tE X.K Wf G x)) (hb : PE X b (tE X.K Wf G y)) : PE X (.Compare a [o] [b] pos) (tE X.K Wf G (.cmp o x y)) :=
  PE.imp (pe_cmpR (op_cmp hu o) ha hb hm) fun τ H Q ⟨σ, S, Q', rs, r, w, k⟩ => by
    simp only [wpE] at w
    exact tE.mk rs r w fun d S1 v H1 f1 r1 q1 w1 => tE.mk (rs.stay (f1.stay r)) r1 w1 fun d2 S2 u H2 f2 r2 q2 w2 =>
      pCmp_ok r2 (q1.stay (f2.stay r1)) q2 (fun b h => (k.on (f1.trans f2)).at r2 (.bl _) h) w2
theorem st_cmp {o : CmpOp} (hu : X.A.units + 65 < cLine) (hm : behindInMarks o b = false) (ha : PE X a (tE X.K Wf G x)) (hb : PE X b (tE X.K Wf G y)) : PT X (.Compare a [o] [b] pos) (tT X.K Wf G (.cmp o x y)) :=
  PT.imp (pt_cmpR (op_cmp hu o) ha hb hm) fun τ H Q ⟨σ, S, Q', rs, r, w, k⟩ => by
    simp only [wpE] at w
    refine tE.mk rs r w fun d S1 v H1 f1 r1 q1 w1 => tE.mk (rs.stay (f1.stay r)) r1 w1 fun d2 S2 u H2 f2 r2 q2 w2 =>
      pCmp_ok r2 (q1.stay (f2.stay r1)) q2 (fun b h => ?_) w2
    obtain ⟨b', e, h⟩ := h
    cases e
    exact ⟨b, rfl, k _ _ _ (f1.trans f2) r2 h⟩
theorem se_cmp2 {o p : CmpOp} (hu : X.A.units + 65 < cLine) (hm : lastMarks [o, p] [b, c] = false) (ha : PE X a (tE X.K Wf G x)) (hb : PE X b (tE X.K Wf G y)) (hc : PE X c (tE X.K Wf G z)) :
    PE X (.Compare a [o, p] [b, c] pos) (tE X.K Wf G (.cmp2 o p x y z)) :=
  PE.imp (pe_chain (op_cmp hu o) (op_cmp hu p) ha hb hc hm) fun τ H Q ⟨σ, S, Q', rs, r, w, k⟩ => by
    simp only [wpE] at w
    refine tE.mk rs r w fun d S1 v H1 f1 r1 q1 w1 => tE.mk (rs.stay (f1.stay r)) r1 w1 fun d2 S2 u H2 f2 r2 q2 w2 =>
      pCmp_ok r2 (q1.stay (f2.stay r1)) q2 (fun b h => ⟨b, rfl, ?_⟩) w2
    cases b with
    | true =>
      rw [if_pos rfl] at h ⊢
      exact tE.mk (rs.stay ((f1.trans f2).stay r)) r2 h fun d3 S3 t H3 f3 r3 q3 w3 => pCmp_ok r3 (q2.stay (f3.stay r2)) q3 (fun b h => (k.on ((f1.trans f2).trans f3)).at r3 (.bl _) h) w3
    | false => rw [if_neg Bool.false_ne_true] at h ⊢; exact (k.on (f1.trans f2)).at r2 (.bl _) h
theorem st_cmp2 {o p : CmpOp} (hu : X.A.units + 65 < cLine) (hm : lastMarks [o, p] [b, c] = false) (ha : PE X a (tE X.K Wf G x)) (hb : PE X b (tE X.K Wf G y)) (hc : PE X c (tE X.K Wf G z)) :
    PT X (.Compare a [o, p] [b, c] pos) (tT X.K Wf G (.cmp2 o p x y z)) :=
  PT.imp (pt_chain (op_cmp hu o) (op_cmp hu p) ha hb hc hm) fun τ H Q ⟨σ, S, Q', rs, r, w, k⟩ => by
    simp only [wpE] at w
    refine tE.mk rs r w fun d S1 v H1 f1 r1 q1 w1 => tE.mk (rs.stay (f1.stay r)) r1 w1 fun d2 S2 u H2 f2 r2 q2 w2 =>
      pCmp_ok r2 (q1.stay (f2.stay r1)) q2 (fun b h => ⟨b, rfl, ?_⟩) w2
    cases b with
    | true =>
      rw [if_pos rfl] at h ⊢
      refine tE.mk (rs.stay ((f1.trans f2).stay r)) r2 h fun d3 S3 t H3 f3 r3 q3 w3 => pCmp_ok r3 (q2.stay (f3.stay r2)) q3 (fun b h => ?_) w3
      obtain ⟨b', e, h⟩ := h
      cases e
      exact ⟨b, rfl, k _ _ _ ((f1.trans f2).trans f3) r3 h⟩
    | false =>
      rw [if_neg Bool.false_ne_true] at h ⊢
      obtain ⟨b', e, h⟩ := h
      cases e
      exact ⟨false, rfl, k _ _ _ (f1.trans f2) r2 h⟩
theorem st_tru (he : ∀ whole, isTrue a X.env whole = (do let v ← whole; standAt a.pos; holding [v] (truthy v))) (ha : PE X a (tE X.K Wf G x)) : PT X a (tT X.K Wf G (.tru x)) :=
  PT.imp (pt_truth ha he) fun τ H Q ⟨σ, S, Q', rs, r, w, k⟩ => by
    simp only [wpE] at w
    refine tE.mk rs r w fun d S1 v H1 f1 r1 q1 w1 => ?_
    obtain ⟨b, hb, b', e, w1⟩ := pTru_ok r1 q1 w1
    cases e
    exact ⟨b, hb, k _ _ _ f1 r1 w1⟩
theorem st_not (ha : PT X a (tT X.K Wf G x)) : PT X (.UnaryOp .Not a pos) (tT X.K Wf G (.not x)) :=
  PT.imp (pt_not ha) fun τ H Q ⟨σ, S, Q', rs, r, w, k⟩ => by
    simp only [wpE] at w
    refine ⟨σ, S, fun b S1 => Q' (!b) S1, rs, r, ?_, fun b S1 H1 f1 r1 w1 => k _ _ _ f1 r1 w1⟩
    simpa using w
theorem sw_and1 (ha : PT X a (tT X.K Wf G x)) : PW X (.BoolOp .And [a] pos) (tT X.K Wf G x) := pw_and1 ha
theorem sw_or1 (ha : PT X a (tT X.K Wf G x)) : PW X (.BoolOp .Or [a] pos) (tT X.K Wf G x) := pw_or1 ha
theorem sw_and {es : List Expr} (ha : PT X a (tT X.K Wf G x)) (hb : PW X (.BoolOp .And (b :: es) pos) (tT X.K Wf G y)) : PW X (.BoolOp .And (a :: b :: es) pos) (tT X.K Wf G (.and x y)) :=
  PW.imp (pw_and ha hb) fun τ H Q ⟨σ, S, Q', rs, r, w, k⟩ => by
    simp only [wpE] at w
    refine ⟨σ, S, _, rs, r, w, fun c S1 H1 f1 r1 w1 => ?_⟩
    cases c with
    | true => rw [if_pos rfl] at w1 ⊢; exact ⟨σ, S1, Q', rs.stay (f1.stay r), r1, w1, fun b S2 H2 f2 => k b S2 H2 (f1.trans f2)⟩
    | false =>
      rw [if_neg Bool.false_ne_true] at w1 ⊢
      obtain ⟨b, e, w1⟩ := w1
      cases e
      exact k _ _ _ f1 r1 w1
theorem sw_or {es : List Expr} (ha : PT X a (tT X.K Wf G x)) (hb : PW X (.BoolOp .Or (b :: es) pos) (tT X.K Wf G y)) : PW X (.BoolOp .Or (a :: b :: es) pos) (tT X.K Wf G (.or x y)) :=
  PW.imp (pw_or ha hb) fun τ H Q ⟨σ, S, Q', rs, r, w, k⟩ => by
    simp only [wpE] at w
    refine ⟨σ, S, _, rs, r, w, fun c S1 H1 f1 r1 w1 => ?_⟩
    cases c with
    | false => rw [if_neg Bool.false_ne_true] at w1 ⊢; exact ⟨σ, S1, Q', rs.stay (f1.stay r), r1, w1, fun b S2 H2 f2 => k b S2 H2 (f1.trans f2)⟩
    | true =>
      rw [if_pos rfl] at w1 ⊢
      obtain ⟨b, e, w1⟩ := w1
      cases e
      exact k _ _ _ f1 r1 w1
/-! ### displays, calls, methods -/
theorem starEach_ne (h : ∀ u p, e ≠ .Starred u p) (es : List Expr) (env : PySem.Env) : starEach (e :: es) env = (false, eval e env) :: starEach es env := by
  cases e <;> first | rfl | exact absurd rfl (h _ _)
theorem sa_nil : PA X [] (tEs X.K Wf G []) := PA.imp pa_nil fun τ H Q ⟨σ, S, Q', rs, r, w, k⟩ => k _ _ _ _ rfl .refl r .nil (by simpa only [wpEs] using w)
theorem sa_cons {es : List Expr} {l : List E} (hne : ∀ u p, e ≠ .Starred u p) (ha : PE X e (tE X.K Wf G x)) (hr : PA X es (tEs X.K Wf G l)) : PA X (e :: es) (tEs X.K Wf G (x :: l)) :=
  PA.imp (pa_cons ha hr (starEach_ne hne _ _)) fun τ H Q ⟨σ, S, Q', rs, r, w, k⟩ => by
    simp only [wpEs] at w
    exact tE.mk rs r w fun d S1 v H1 f1 r1 q1 w1 => ⟨σ, S1, _, rs.stay (f1.stay r), r1, w1, fun ds S2 vs H2 hl f2 r2 q2 w2 => k _ _ _ _ (congrArg (· + 1) hl) (f1.trans f2) r2 (.cons (q1.stay (f2.stay r1)) q2) w2⟩
theorem se_tup {es : List Expr} {l : List E} {j : Nat} (hl : l.length ≤ 100) (h : PA X es (tEs X.K Wf G l)) : PE X (.Tuple es j pos) (tE X.K Wf G (.tup l)) :=
  PE.imp (pe_tup h) fun τ H Q ⟨σ, S, Q', rs, r, w, k⟩ => by
    simp only [wpE] at w
    exact ⟨σ, S, _, rs, r, w, fun ds S1 vs H1 hd f1 r1 q1 w1 => ⟨by rw [← q1.length, hd]; exact Nat.le_trans hl (by decide), (k.on f1).tup r1 q1 w1⟩⟩
theorem se_lst {es : List Expr} {l : List E} (hl : l.length ≤ 100) (h : PA X es (tEs X.K Wf G l)) : PE X (.List es pos) (tE X.K Wf G (.lst l)) :=
  PE.imp (pe_lst h) fun τ H Q ⟨σ, S, Q', rs, r, w, k⟩ => by
    simp only [wpE] at w
    exact ⟨σ, S, _, rs, r, w, fun ds S1 vs H1 hd f1 r1 q1 w1 => ⟨by rw [← q1.length, hd]; exact Nat.le_trans hl (by decide), (k.on f1).lst r1 q1 w1⟩⟩
theorem se_dnew : PE X (.Dict [] [] pos) (tE X.K Wf G .dnew) :=
  PE.imp pe_dnewK fun τ H Q ⟨σ, S, Q', rs, r, w, k⟩ => by
    simp only [wpE] at w
    exact fun p hp => k _ _ _ _ (Fr.new r hp (.dK []) (.dic [])) (r.new hp ⟨[], upd_same, .nil⟩) (.ref p) (w p (r.fresh hp))
theorem starEach_all : ∀ (es : List Expr) (env : PySem.Env), (∀ e ∈ es, ∀ u p, e ≠ .Starred u p) → (starEach es env).all (fun x => !x.1) = true
  | [], _, _ => rfl
  | e :: es, env, h => by
    rw [starEach_ne (h e (List.mem_cons_self ..)) es env, List.all_cons, starEach_all es env fun x hx => h x (List.mem_cons_of_mem _ hx)]; rfl
theorem starEach_any (es : List Expr) (env : PySem.Env) (h : ∀ e ∈ es, ∀ u p, e ≠ .Starred u p) (pos : Pos) : (backTo pos (starEach es env)).any (·.1) = false := by
  have z := starEach_all es env h
  rw [List.any_eq_false]
  intro x hx
  unfold backTo at hx
  obtain ⟨y, hy, rfl⟩ := List.mem_map.mp hx
  have := List.all_eq_true.mp z y hy
  simpa using this
theorem vis_of {N : List Str} {sc : Scope} {x : Str} {i : Nat} (h : nameOf N sc x = some (some i)) : Vis sc x ∧ N[i]? = some x ∧ (x == ("__debug__" : Str)) = false ∧ (x == ("__classdict__" : Str)) = false := by
  have slot : ∀ (N : List Str) (k i : Nat), slotOf N x k = some i → k ≤ i ∧ N[i - k]? = some x := by
    intro N
    induction N with
    | nil => intro k i h; cases h
    | cons y r ih =>
      intro k i h
      unfold slotOf at h
      split at h
      · rename_i e
        cases h
        subst e
        exact ⟨Nat.le_refl _, by simp⟩
      · obtain ⟨h1, h2⟩ := ih (k + 1) i h
        refine ⟨by omega, ?_⟩
        have : i - k = (i - (k + 1)) + 1 := by omega
        rw [this]; simpa using h2
  unfold nameOf at h
  split at h
  · cases h
  · rename_i hn
    rw [not_or, not_or] at hn
    have fin : ∀ {i : Nat}, (slotOf N x 0).map some = some (some i) → N[i]? = some x := fun {i} e => by
      cases q : slotOf N x 0 with
      | none => rw [q] at e; cases e
      | some j => rw [q] at e; cases e; exact (slot N 0 _ q).2
    have nd : (x == ("__debug__" : Str)) = false ∧ (x == ("__classdict__" : Str)) = false := ⟨beq_eq_false_iff_ne.mpr hn.1, beq_eq_false_iff_ne.mpr hn.2.1⟩
    split at h
    · rename_i e; exact ⟨.inl e, fin h, nd⟩
    · rename_i e; exact ⟨.inr (.inl e), fin h, nd⟩
    · rename_i e; exact ⟨.inr (.inr e), fin h, nd⟩
    · cases h
    · cases h
theorem gl_of {N : List Str} {sc : Scope} {x : Str} (h : nameOf N sc x = some none) : sc.names.lookup x = some .globalImplicit ∧ (x == ("__debug__" : Str)) = false := by
  unfold nameOf at h
  split at h
  · cases h
  · rename_i hn
    rw [not_or, not_or] at hn
    have no : ∀ o : Option Nat, o.map some ≠ some none := fun o z => by cases o <;> cases z
    split at h
    · exact absurd h (no _)
    · exact absurd h (no _)
    · exact absurd h (no _)
    · rename_i e; exact ⟨e, beq_eq_false_iff_ne.mpr hn.1⟩
    · cases h
end
end Mp

namespace Mp
open PySem L2 PySem.Spec PyProof.Rows

/-! ## calls -/
/-- a def keeps a promise where nothing is being shown (no repr runs) -/
structure FnG (P : Program) (w : World) (K : PySem.W.Frag) (mg : Str → Option Value) (base : Heap) (k : Nat) (f : Addr) (fd : FuncData) (ps : List Str) (sp : List V → Hp → VK → Prop) : Prop where
  len : ∀ vs H Q, sp vs H Q → vs.length = ps.length
  run : ∀ (A : Around) (outer : List PySem.Env) (s : Shared) (H : Hp) (args : Args) (us : List Value) (vs : List V) (Q : VK), Room k A → A.guards = some [] → Env0 P w K mg base A outer s H →
    BindsTo s fd args (ps.zip us) → Vals vs us → sp vs H Q → codeAny (model P w) A (.call (.ref f) args) (CR CX0 outer P w H s Q E0) s
/-- what the language says of a call -/
def spF (K : PySem.W.Frag) (F : Str → Option Fn) (G : Str → Option Str) (k : Nat) (f : Str) : List V → Hp → VK → Prop := fun vs H Q => ∃ (ds : List D) (S : Sto) (Q' : Post), RDs K H ds vs ∧ RS K S H ∧ W F G k f ds S X0 Q' ∧ Kp K S H Q' Q
/-- where a def's body runs -/
structure Good (F : Str → Option Fn) (G : Str → Option Str) (L : List Str) (k : Nat) (X : Cx) : Prop where
  nd : X.N.Nodup
  calm : X.calm = true
  room : Room k X.A
  quiet : X.A.guards = some []
  sysm : SysM X
  blt : ∀ x ∈ bltNames, X.mg x = none
  txt : ∀ x z, G x = some z → ∃ u, X.mg x = some u ∧ RelV (.str z) u
  fns : ∀ f ∈ L, ∃ a fd ps, X.mg f = some (.ref a) ∧ PySem.W.keepIn X.K (.ref a) = true ∧ Binds X.K fd ps [] ∧ FnG X.prog X.w X.K X.mg X.base k a fd ps (spF X.K F G k f)
section
variable {X : Cx} {F : Str → Option Fn} {G : Str → Option Str} {L : List Str} {k : Nat} {a b c e : Expr} {x y z : E} {pos : Pos}
theorem Good.un (g : Good F G L k X) : X.A.units + 65 < cLine := by have := g.room.un; omega
theorem Good.blk (g : Good F G L k X) (s : Shared) (H : Hp) (scope : Scope) (cenv : PySem.Env) (fp : List Addr) : Good F G L k (X.blk s H scope cenv fp) := ⟨g.nd, g.calm, g.room, g.quiet, g.sysm, g.blt, g.txt, g.fns⟩
/-- a def is called -/
theorem runG {f : Addr} {fd : FuncData} {ps : List Str} {sp : List V → Hp → VK → Prop} {pins : List (Addr × Obj)} {σ : L2.St} {H : Hp} {s : Shared} {Q : VK} {us : List Value} {vs : List V}
    (g : FnG X.prog X.w X.K X.mg X.base k f fd ps sp) (hr : Room k X.A) (hq : X.A.guards = some []) (hb : Binds X.K fd ps []) (I : Inv X pins σ H s) (r : Vals vs us) (h : sp vs H Q) :
    wpAny (model X.prog X.w) X.A (call (.ref f) us) (EP X pins σ Q) X.xe s := by
  have n : (us ++ []).length = ps.length := by rw [List.append_nil, ← r.length]; exact g.len _ _ _ h
  have b := hb s us I.kIn n
  rw [List.append_nil] at b
  refine wpAny_call (codeAny_mono (g.run X.A X.stack s H ⟨us, []⟩ us vs Q hr hq I.env0 b r h) fun t s' q => ?_)
  match t, q with
  | .error _, q => exact q.elim
  | .ok (.ret _), q => exact I.after q
  | .ok .next, q => exact q.elim
  | .ok .brk, q => exact q.elim
  | .ok .cont, q => exact q.elim
theorem se_call {f : Str} {p : Pos} {l : List E} {es : List Expr} (g : Good F G L k X) (hf : f ∈ L) (hg : Gl X f) (hd : (f == ("__debug__" : Str)) = false) (hne : ∀ e ∈ es, ∀ u q, e ≠ .Starred u q) (hl : l.length = es.length) (ha : PA X es (tEs X.K (W F G k) G l)) :
    PE X (.Call (.Name f p) es [] pos) (tE X.K (W F G k) G (.call f l)) := by
  obtain ⟨ad, fd, ps, hm, hk, hb, fg⟩ := g.fns f hf
  refine ⟨fun pins s τ H Q I ⟨σ, S, Q', rs, r, w, kk⟩ => ?_⟩
  simp only [wpE] at w
  refine wpAny_Call_Name_kw (ld_glob I hg hm ?_ hd)
  cases es with
  | nil =>
    cases l with
    | cons _ _ => cases hl
    | nil =>
      simp only [wpEs] at w
      exact PySem.W.callWith_K0 I.kIn hk (runG (us := []) fg g.room g.quiet hb I .nil ⟨[], S, Q', .nil, r, w, kk⟩)
  | cons e1 rest =>
    have he := starEach_ne (hne e1 (List.mem_cons_self ..)) rest X.env
    have hpl := starEach_any rest X.env (fun y hy => hne y (List.mem_cons_of_mem _ hy)) pos
    refine PySem.W.callWith_K (h₀ := X.base) I.ok.mod.kin hk (thn (ha.run pos pins s τ H (fun vs H1 => spF X.K F G k f vs H1 Q) I ⟨σ, S, _, rs, r, w, fun ds S1 vs H1 _ f1 r1 q1 w1 => ⟨ds, S1, Q', q1, r1, w1, kk.on f1⟩⟩) fun us s1 ⟨vs, H1, I1, rv, q⟩ => ⟨I1.kIn, ?_⟩) he hpl
    exact runG fg g.room g.quiet hb I1 rv q
theorem Good.no (g : Good F G L k X) {x : Str} (h : x ∈ bltNames) : X.mg x = none := g.blt x h
theorem bt_fact (f : Bt) : f.nm ∈ bltNames ∧ f.nm ≠ "__name__" ∧ (f.nm == ("__debug__" : Str)) = false ∧ bootBuiltins f.nm = some f.val := by
  cases f <;> exact ⟨by decide +kernel, by decide +kernel, by decide +kernel, by decide +kernel⟩
theorem bt_val (f : Bt) : (∃ id, f.val = .builtin id) ∨ ∃ T, f.val = .type T := by
  cases f <;> first | exact .inl ⟨_, rfl⟩ | exact .inr ⟨_, rfl⟩
theorem se_blt {f : Bt} {p : Pos} {l : List E} {es : List Expr} (g : Good F G L k X) (hg : Gl X f.nm) (he : ∀ u q, e ≠ .Starred u q) (hne : ∀ e ∈ es, ∀ u q, e ≠ .Starred u q) (ha : PA X (e :: es) (tEs X.K (W F G k) G l)) :
    PE X (.Call (.Name f.nm p) (e :: es) [] pos) (tE X.K (W F G k) G (.blt f l)) := by
  obtain ⟨h1, h2, h3, h4⟩ := bt_fact f
  have s1 := starEach_ne he es X.env
  have s2 := starEach_any es X.env hne pos
  have c := cr_all' g.calm g.un g.quiet g.sysm f
  have fin : ∀ τ H Q, tE X.K (W F G k) G (.blt f l) τ H Q → tCB (Mp.rB X.K f) (tEs X.K (W F G k) G l) τ H Q := fun τ H Q ⟨σ, S, Q', rs, r, w, kk⟩ => by
    simp only [wpE] at w
    exact ⟨σ, S, _, rs, r, w, fun ds S1 vs H1 _ f1 r1 q1 w1 => pB_ok r1 q1 (kk.on f1) w1⟩
  rcases bt_val f with ⟨id, e1⟩ | ⟨T, e1⟩
  · rw [e1] at c h4
    exact PE.imp (pe_callB c hg (g.no h1) h4 ha h2 h3 s1 s2) fin
  · rw [e1] at c h4
    exact PE.imp (pe_callTy c hg (g.no h1) h4 ha h2 h3 s1 s2) fin
theorem ty_fact (t : Ty) : t.nm ∈ bltNames ∧ t.nm ≠ "__name__" ∧ (t.nm == ("__debug__" : Str)) = false ∧ bootBuiltins t.nm = some (.type t.name) := by
  cases t <;> exact ⟨by decide +kernel, by decide +kernel, by decide +kernel, by decide +kernel⟩
theorem ty_of {n : Str} {t : Ty} (h : tyOf? n = some t) : n ∈ bltNames ∧ n ≠ "__name__" ∧ (n == ("__debug__" : Str)) = false ∧ bootBuiltins n = some (.type t.name) := by
  have z := List.find?_some (p := fun b : Ty => decide (n = b.nm)) h
  have e : n = t.nm := of_decide_eq_true z
  subst e
  exact ty_fact t
theorem isi_boot : bootBuiltins "isinstance" = some (.builtin "isinstance") := by decide +kernel
theorem se_isi {p q : Pos} {n : Str} {t : Ty} (g : Good F G L k X) (hi : Gl X "isinstance") (ht : Gl X n) (hn : tyOf? n = some t) (he : ∀ u q, a ≠ .Starred u q) (ha : PE X a (tE X.K (W F G k) G x)) :
    PE X (.Call (.Name "isinstance" p) [a, .Name n q] [] pos) (tE X.K (W F G k) G (.isi x t)) := by
  obtain ⟨h1, h2, h3, h4⟩ := ty_of hn
  have hb : PE X (.Name n q) (tC (.ty t.name)) := pe_bltn ht (g.no h1) h4 rfl h2 h3
  refine PE.imp (pe_callB call_isi hi (g.no (by decide +kernel)) isi_boot (pa_cons ha (pa_cons hb pa_nil rfl) (starEach_ne he _ _)) (by decide +kernel) (by decide +kernel) (starEach_ne he _ _) rfl) fun τ H Q ⟨σ, S, Q', rs, r, w, kk⟩ => ?_
  simp only [wpE] at w
  exact tE.mk rs r w fun d S1 v H1 f1 r1 q1 w1 => pIsi_ok r1 q1 (fun b h => (kk.on f1).at r1 (.bl _) h) w1
/-! ### methods -/
theorem mt_fact (m : Mt) (h : m ≠ .get) : ∃ id, Slot "list" m.nm id ∧ typeOf (.builtin id) = pure (.type "method_descriptor") ∧ ∀ X : Cx, X.A.units + 65 < cLine → MtR X id (rM X.K m) := by
  cases m with
  | append => exact ⟨_, PySem.F.slot_list_append, PySem.F.type_list_append, fun X _ => mt_append⟩
  | extend => exact ⟨_, PySem.F.slot_list_extend, PySem.F.type_list_extend, fun X _ => mt_extend⟩
  | pop => exact ⟨_, PySem.F.slot_list_pop, PySem.F.type_list_pop, fun X _ => mt_pop⟩
  | index => exact ⟨_, PySem.F.slot_list_index, PySem.F.type_list_index, fun X hu => mt_index.or (mt_indexD hu)⟩
  | get => exact absurd rfl h
theorem base_of {o : Expr} {f : Str} (h : ∀ p q r, o ≠ .Call (.Name p q) [] [] r) (env : PySem.Env) : attributeBase o f env (eval o env) = eval o env := by
  unfold attributeBase
  split
  · rename_i q r s; exact absurd rfl (h _ _ _)
  · rfl
theorem mTy_ok {K : PySem.W.Frag} {S : Sto} {H : Hp} {m : Mt} {d : D} {v : V} (r : RS K S H) (q : RD K H d v) (h : mTy m d S) : m ≠ .get ∧ tyV K "list" v H := by
  unfold mTy at h
  split at h
  · obtain ⟨u, h⟩ := h; cases q; obtain ⟨vs, z, _⟩ := r.lst h; exact ⟨by decide, .inl ⟨rfl, vs, .of z⟩⟩
  · obtain ⟨u, h⟩ := h; cases q; obtain ⟨vs, z, _⟩ := r.lst h; exact ⟨by decide, .inl ⟨rfl, vs, .of z⟩⟩
  · obtain ⟨u, h⟩ := h; cases q; obtain ⟨vs, z, _⟩ := r.lst h; exact ⟨by decide, .inl ⟨rfl, vs, .of z⟩⟩
  · obtain ⟨u, h⟩ := h; cases q; obtain ⟨vs, z, _⟩ := r.lst h; exact ⟨by decide, .inl ⟨rfl, vs, .of z⟩⟩
  · exact h.elim
theorem se_mth {m : Mt} {o : Expr} {ap : Pos} {l : List E} {es : List Expr} (g : Good F G L k X) (hm : m ≠ .get) (hb : ∀ p q r, o ≠ .Call (.Name p q) [] [] r) (hline : (ap.endLine == pos.line) = true) (hne : ∀ e ∈ es, ∀ u q, e ≠ .Starred u q) (h10 : es.length ≤ 10) (hl : l.length = es.length)
    (ho : PE X o (tE X.K (W F G k) G x)) (ha : PA X es (tEs X.K (W F G k) G l)) : PE X (.Call (.Attribute o m.nm ap) es [] pos) (tE X.K (W F G k) G (.mth m x l)) := by
  obtain ⟨id, sl, ty, mt⟩ := mt_fact m hm
  cases es with
  | nil =>
    cases l with
    | cons _ _ => cases hl
    | nil =>
      refine PE.imp (pe_bm0 PySem.F.plainAttrs_list sl ty (mt X g.un) ho (base_of hb _) hline) fun τ H Q ⟨σ, S, Q', rs, r, w, kk⟩ => ?_
      simp only [wpE, wpEs] at w
      exact tE.mk rs r w fun d S1 v H1 f1 r1 q1 w1 => ⟨(mTy_ok r1 q1 w1.1).2, pM_ok r1 q1 .nil (kk.on f1) w1.2⟩
  | cons e1 rest =>
    have he := starEach_ne (hne e1 (List.mem_cons_self ..)) rest X.env
    have hpl := starEach_any rest X.env (fun y hy => hne y (List.mem_cons_of_mem _ hy)) pos
    have hfew : ((backTo pos (starEach (e1 :: rest) X.env)).all (fun x => !x.1) && (backToKw pos (keywordEach [] X.env)).all (fun x => x.1.isSome)
      && decide ((e1 :: rest).length + ([] : List Keyword).length + (if ([] : List Keyword).isEmpty then 0 else 1) < 30)) = true := by
      have z := starEach_any (e1 :: rest) X.env hne pos
      have z' : (backTo pos (starEach (e1 :: rest) X.env)).all (fun x => !x.1) = true := by
        rw [List.any_eq_false] at z
        rw [List.all_eq_true]
        intro t ht
        have := z t ht
        simpa using this
      rw [z']
      have : (e1 :: rest).length < 30 := by omega
      simp only [Bool.true_and, Bool.and_eq_true, decide_eq_true_eq]
      exact ⟨rfl, by simpa using this⟩
    refine PE.imp (pe_bm PySem.F.plainAttrs_list sl ty (mt X g.un) ho ha (base_of hb _) hfew hline he hpl) fun τ H Q ⟨σ, S, Q', rs, r, w, kk⟩ => ?_
    simp only [wpE] at w
    exact tE.mk rs r w fun d S1 v H1 f1 r1 q1 w1 => ⟨(mTy_ok r1 q1 w1.1).2, σ, S1, _, rs.stay (f1.stay r), r1, w1.2, fun ds S2 vs H2 _ f2 r2 q2 w2 => pM_ok r2 (q1.stay (f2.stay r1)) q2 (kk.on (f1.trans f2)) w2⟩
/-! ### dicts -/
theorem isD_ok {K : PySem.W.Frag} {S : Sto} {H : Hp} {d : D} {v : V} (r : RS K S H) (q : RD K H d v) (h : isD d S) : ∃ a, v = .ref a ∧ d = .ref a ∧ IsD H a := by
  unfold isD at h
  split at h
  · rename_i a
    cases q
    split at h
    · rename_i e; obtain ⟨ls, z, _⟩ := r _ _ e; exact ⟨a, rfl, rfl, .inl ⟨ls, .inl z⟩⟩
    · rename_i e; obtain ⟨o, ls, z, _⟩ := r _ _ e; exact ⟨a, rfl, rfl, .inl ⟨ls, .inr ⟨o, z⟩⟩⟩
    · exact h.elim
  · exact h.elim
theorem m1_of {o : Expr} {m : Str} {ap cp : Pos} {e : Expr} (hb : ∀ p q r, o ≠ .Call (.Name p q) [] [] r) (hline : (ap.endLine == cp.line) = true) (he : ∀ u q, e ≠ .Starred u q) : M1 X o m ap e cp := by
  have s1 := starEach_ne he [] X.env
  refine ⟨base_of hb _, ?_, hline, ?_⟩
  · rw [s1]; rfl
  · rw [s1]; rfl
theorem m2_of {o : Expr} {m : Str} {ap cp : Pos} {e f : Expr} (hb : ∀ p q r, o ≠ .Call (.Name p q) [] [] r) (hline : (ap.endLine == cp.line) = true) (he : ∀ u q, e ≠ .Starred u q) (hf : ∀ u q, f ≠ .Starred u q) : M2 X o m ap e f cp := by
  have s1 := starEach_ne he [f] X.env
  have s2 := starEach_ne hf [] X.env
  refine ⟨base_of hb _, ?_, hline, ?_⟩
  · rw [s1, s2]; rfl
  · rw [s1, s2]; rfl
theorem se_dget1 {o : Expr} {ap cp : Pos} (g : Good F G L k X) (m : M1 X o "get" ap a cp) (ho : PE X o (tE X.K (W F G k) G x)) (ha : PE X a (tE X.K (W F G k) G y)) : PE X (.Call (.Attribute o "get" ap) [a] [] cp) (tE X.K (W F G k) G (.dget x y [])) :=
  PE.imp (pe_dget1 (by have := g.un; omega) ho ha m) fun τ H Q ⟨σ, S, Q', rs, r, w, kk⟩ => by
    simp only [wpE, wpEs] at w
    refine tE.mk rs r w fun d S1 v H1 f1 r1 q1 w1 => ?_
    obtain ⟨isd, w1⟩ := w1
    obtain ⟨ad, e, e2, hd⟩ := isD_ok r1 q1 isd
    refine ⟨ad, e, hd, tE.mk (rs.stay (f1.stay r)) r1 w1 fun d2 S2 u H2 f2 r2 q2 w2 => ?_⟩
    obtain ⟨a', e', w2⟩ := w2
    rw [e2] at e'; cases e'
    obtain ⟨o, o', g', h, n1, n2⟩ := dGet_ok r2 q2 w2
    refine ⟨o', g', ?_⟩
    cases o with
    | none => rw [n1 rfl]; exact (kk.on (f1.trans f2)).at r2 .non h
    | some d => obtain ⟨v', e3, q3⟩ := n2 d rfl; rw [e3]; exact (kk.on (f1.trans f2)).at r2 q3 h
theorem se_dget2 {o : Expr} {ap cp : Pos} (g : Good F G L k X) (m : M2 X o "get" ap a b cp) (ho : PE X o (tE X.K (W F G k) G x)) (ha : PE X a (tE X.K (W F G k) G y)) (hb : PE X b (tE X.K (W F G k) G z)) : PE X (.Call (.Attribute o "get" ap) [a, b] [] cp) (tE X.K (W F G k) G (.dget x y [z])) :=
  PE.imp (pe_dget2 (by have := g.un; omega) ho ha hb m) fun τ H Q ⟨σ, S, Q', rs, r, w, kk⟩ => by
    simp only [wpE, wpEs] at w
    refine tE.mk rs r w fun d S1 v H1 f1 r1 q1 w1 => ?_
    obtain ⟨isd, w1⟩ := w1
    obtain ⟨ad, e, e2, hd⟩ := isD_ok r1 q1 isd
    refine ⟨ad, e, hd, tE.mk (rs.stay (f1.stay r)) r1 w1 fun d2 S2 u H2 f2 r2 q2 w2 => tE.mk (rs.stay ((f1.trans f2).stay r)) r2 w2 fun d3 S3 t H3 f3 r3 q3 w3 => ?_⟩
    obtain ⟨a', e', w3⟩ := w3
    rw [e2] at e'; cases e'
    obtain ⟨o, o', g', h, n1, n2⟩ := dGet_ok r3 (q2.stay (f3.stay r2)) w3
    refine ⟨o', g', ?_⟩
    cases o with
    | none => rw [n1 rfl]; exact (kk.on ((f1.trans f2).trans f3)).at r3 q3 h
    | some d => obtain ⟨v', e3, q3⟩ := n2 d rfl; rw [e3]; exact (kk.on ((f1.trans f2).trans f3)).at r3 q3 h
theorem getK_val {K : PySem.W.Frag} {H : Hp} {kvs : List (Key × D)} {ls : List (Key × V)} {k : Key} (h : RKv K H kvs ls) : (∀ v, valV ls k = some v → ∃ d, getK kvs k = some d ∧ RD K H d v) ∧ (valV ls k = none → getK kvs k = none) := by
  obtain ⟨n1, n2⟩ := RKv.get k h
  cases e : getK kvs k with
  | none => exact ⟨fun v z => (by rw [n1 e] at z; cases z), fun _ => rfl⟩
  | some d =>
    obtain ⟨v, e2, q⟩ := n2 d e
    exact ⟨fun v' z => by rw [e2] at z; cases z; exact ⟨d, rfl, q⟩, fun z => by rw [e2] at z; cases z⟩
theorem se_dsd {o : Expr} {ap cp : Pos} (g : Good F G L k X) (m : M2 X o "setdefault" ap a b cp) (ho : PE X o (tE X.K (W F G k) G x)) (ha : PE X a (tE X.K (W F G k) G y)) (hb : PE X b (tE X.K (W F G k) G z)) : PE X (.Call (.Attribute o "setdefault" ap) [a, b] [] cp) (tE X.K (W F G k) G (.dsd x y z)) :=
  PE.imp (pe_dsetd ho ha hb m) fun τ H Q ⟨σ, S, Q', rs, r, w, kk⟩ => by
    simp only [wpE, wpEs] at w
    refine tE.mk rs r w fun d S1 v H1 f1 r1 q1 w1 => ?_
    obtain ⟨isd, w1⟩ := w1
    obtain ⟨ad, e, e2, hd⟩ := isD_ok r1 q1 isd
    refine ⟨ad, e, hd, tE.mk (rs.stay (f1.stay r)) r1 w1 fun d2 S2 u H2 f2 r2 q2 w2 => tE.mk (rs.stay ((f1.trans f2).stay r)) r2 w2 fun d3 S3 t H3 f3 r3 q3 w3 => ?_⟩
    obtain ⟨a', kvs, key, e', hs, hk, hl, h1, h2⟩ := w3
    rw [e2] at e'; cases e'
    obtain ⟨ls, hz, rk⟩ := r3 _ _ hs
    have hy := kV_of hk (q2.stay (f3.stay r2))
    have ks := kk.on ((f1.trans f2).trans f3)
    refine ⟨ls, key, hz, hy, by rw [← Paired.length rk]; exact hl, fun v' hv => ?_, fun hn => ?_⟩
    · obtain ⟨d', hd', q'⟩ := (getK_val rk).1 v' hv
      exact ks.at r3 q' (h1 d' hd')
    · have nl : ∀ kvs', Ob.dic kvs ≠ .lck kvs' := fun _ z => nomatch z
      have st := stay_set r3 hs (.dK (putK ls key t))
      exact ks d3 _ t _ (Fr.set hs nl _ (.dic (putD kvs key d3))) (r3.set hs (show RO X.K _ _ (.dic _) from ⟨_, upd_same, RKv.stay st (rk.put key q3)⟩)) (q3.stay st) (h2 ((getK_val rk).2 hn))
/-! ### ranges as values -/
theorem rg_rd {K : PySem.W.Frag} {H : Hp} (i j : Int) : RDs K H (rgOf i j) (rgV i j) := by
  unfold rgOf rgV
  generalize List.range (j - i).toNat = l
  induction l with
  | nil => exact .nil
  | cons n r ih => exact .cons (.int _) ih
theorem se_lrgP {es : List E} {fn : Str} {tp : Bool} {e : Expr} {p : Pos} {te : L2.St → Hp → (Int → Int → Hp → Prop) → Prop} (g : Good F G L k X) (hf : fn = if tp = true then "tuple" else "list") (hg : Gl X fn) (hr : PRg X e te) (he : ∀ u q, e ≠ .Starred u q)
    (im : ∀ τ H (σ : Sl) (S : Sto) (Q' : Int → Int → Sto → Prop) (Q : Int → Int → Hp → Prop), RSl X.K H σ τ → RS X.K S H → wpEs (W F G k) G es σ S X0 (fun xs S1 => ∃ ij, rgArgs xs = some ij ∧ Q' ij.1 ij.2 S1) → (∀ i j S1 H1, Fr S H S1 H1 → RS X.K S1 H1 → Q' i j S1 → Q i j H1) → te τ H Q) :
    PE X (.Call (.Name fn p) [e] [] pos) (tE X.K (W F G k) G (.lrg tp es)) := by
  have s1 := starEach_ne he [] X.env
  cases tp with
  | true =>
    rw [if_pos rfl] at hf; subst hf
    refine PE.imp (pe_tupRg g.calm hg (g.no (by decide +kernel)) hr s1) fun τ H Q ⟨σ, S, Q', rs, r, w, kk⟩ => ?_
    simp only [wpE, if_true] at w
    refine im τ H σ S (fun i j S1 => ((small i ∧ small j) ∧ (j - i).toNat ≤ sizeLine) ∧ Q' (D.tup (rgOf i j)) S1) _ rs r w fun i j S1 H1 f1 r1 w1 => ⟨⟨w1.1.1.1.1, w1.1.1.1.2, w1.1.1.2.1, w1.1.1.2.2, w1.1.2⟩, (kk.on f1).tup r1 (rg_rd i j) w1.2⟩
  | false =>
    rw [if_neg Bool.false_ne_true] at hf; subst hf
    refine PE.imp (pe_listRg g.calm hg (g.no (by decide +kernel)) hr s1) fun τ H Q ⟨σ, S, Q', rs, r, w, kk⟩ => ?_
    simp only [wpE, Bool.false_eq_true, if_false] at w
    refine im τ H σ S (fun i j S1 => ((small i ∧ small j) ∧ (j - i).toNat ≤ sizeLine) ∧ pNew (.lst (rgOf i j)) S1 Q') _ rs r w fun i j S1 H1 f1 r1 w1 => ⟨⟨w1.1.1.1.1, w1.1.1.1.2, w1.1.1.2.1, w1.1.1.2.2, w1.1.2⟩, (kk.on f1).lst r1 (rg_rd i j) w1.2⟩
theorem se_lrg1 {fn : Str} {tp : Bool} {p q q2 : Pos} (g : Good F G L k X) (hf : fn = if tp = true then "tuple" else "list") (hg : Gl X fn) (hr : Gl X "range") (ha : PE X a (tE X.K (W F G k) G x)) (he : ∀ u q, a ≠ .Starred u q) :
    PE X (.Call (.Name fn p) [.Call (.Name "range" q) [a] [] q2] [] pos) (tE X.K (W F G k) G (.lrg tp [x])) := by
  refine se_lrgP g hf hg (prg_1 hr (g.no (by decide +kernel)) ha (starEach_ne he _ _)) (fun _ _ z => by cases z) fun τ H σ S Q' Q rs r w kk => ?_
  simp only [wpEs] at w
  refine tE.mk rs r w fun d S1 v H1 f1 r1 q1 w1 => ?_
  obtain ⟨ij, e, w1⟩ := w1
  cases q1 <;> first | (cases e; exact ⟨_, rfl, kk _ _ _ _ f1 r1 w1⟩) | cases e
theorem se_lrg2 {fn : Str} {tp : Bool} {p q q2 : Pos} (g : Good F G L k X) (hf : fn = if tp = true then "tuple" else "list") (hg : Gl X fn) (hr : Gl X "range") (ha : PE X a (tE X.K (W F G k) G x)) (he : ∀ u q, a ≠ .Starred u q) (hb : PE X b (tE X.K (W F G k) G y)) (he2 : ∀ u q, b ≠ .Starred u q) :
    PE X (.Call (.Name fn p) [.Call (.Name "range" q) [a, b] [] q2] [] pos) (tE X.K (W F G k) G (.lrg tp [x, y])) := by
  refine se_lrgP g hf hg (prg_2 hr (g.no (by decide +kernel)) ha hb (starEach_ne he _ _) (starEach_ne he2 _ _) (by rw [starEach_ne he2]; rfl)) (fun _ _ z => by cases z) fun τ H σ S Q' Q rs r w kk => ?_
  simp only [wpEs] at w
  refine tE.mk rs r w fun d S1 v H1 f1 r1 q1 w1 => tE.mk (rs.stay (f1.stay r)) r1 w1 fun d2 S2 u H2 f2 r2 q2 w2 => ?_
  obtain ⟨ij, e, w2⟩ := w2
  cases q1 <;> first | (cases q2 <;> first | (cases e; exact ⟨_, _, rfl, rfl, kk _ _ _ _ (f1.trans f2) r2 w2⟩) | cases e) | (cases e; done)
/-! ### len(set(..)) -/
theorem any_beq {l : List Int} {x : Int} : l.any (· == x) = decide (x ∈ l) := by
  rw [Bool.eq_iff_iff]; simp [List.any_eq_true]
theorem firstMet_dedup {ns : List Int} : ∀ i, i ≤ ns.length → PyProof.Rows.firstMet (fun i => ns.getD i 0) i = dedup (ns.take i)
  | 0, _ => rfl
  | i + 1, hi => by
    have hlt : i < ns.length := hi
    have e1 : ns.getD i 0 = ns[i] := by
      rw [List.getD_eq_getElem?_getD, List.getElem?_eq_getElem hlt] <;> rfl
    have e2 : ns.take (i + 1) = ns.take i ++ [ns[i]] := by
      rw [List.take_add_one, List.getElem?_eq_getElem hlt] <;> rfl
    have ih := firstMet_dedup i (Nat.le_of_lt hlt)
    rw [PyProof.Rows.firstMet_succ, ih, e2]
    show (if (dedup (ns.take i)).any (· == ns.getD i 0) then dedup (ns.take i) else dedup (ns.take i) ++ [ns.getD i 0]) = _
    rw [e1, any_beq]
    unfold dedup
    rw [List.foldl_append]
    simp
/-! ### sets of texts, counted -/
theorem dd_mem {l : List Str} {x : Str} : x ∈ dedup l ↔ x ∈ l := by
  unfold dedup
  suffices h : ∀ (l acc : List Str), x ∈ l.foldl (fun a x => if x ∈ a then a else a ++ [x]) acc ↔ x ∈ acc ∨ x ∈ l by simpa using h l []
  intro l
  induction l with
  | nil => intro acc; simp
  | cons y r ih =>
    intro acc
    rw [List.foldl_cons, ih]
    by_cases h : y ∈ acc
    · rw [if_pos h, List.mem_cons]
      exact ⟨fun c => c.elim .inl fun c => .inr (.inr c), fun c => c.elim .inl fun c => c.elim (fun e => .inl (e ▸ h)) .inr⟩
    · rw [if_neg h, List.mem_append, List.mem_singleton, List.mem_cons]
      exact ⟨fun c => c.elim (fun c => c.elim .inl fun c => .inr (.inl c)) fun c => .inr (.inr c), fun c => c.elim (fun c => .inl (.inl c)) fun c => c.elim (fun c => .inl (.inr c)) .inr⟩
theorem dd_snoc {l : List Str} {x : Str} : (dedup (l ++ [x])).length = if x ∈ l then (dedup l).length else (dedup l).length + 1 := by
  have e : dedup (l ++ [x]) = if x ∈ dedup l then dedup l else dedup l ++ [x] := by unfold dedup; rw [List.foldl_append]; rfl
  rw [e]
  by_cases h : x ∈ l
  · rw [if_pos (dd_mem.mpr h), if_pos h]
  · rw [if_neg (fun c => h (dd_mem.mp c)), if_neg h, List.length_append]; rfl
theorem dd_len (l : List Str) : (dedup l).length ≤ l.length := by
  suffices h : ∀ (l acc : List Str), (l.foldl (fun a x => if x ∈ a then a else a ++ [x]) acc).length ≤ acc.length + l.length by simpa [dedup] using h l []
  intro l
  induction l with
  | nil => intro acc; simp
  | cons y r ih =>
    intro acc
    rw [List.foldl_cons]
    refine Nat.le_trans (ih _) ?_
    split <;> simp <;> omega
section
variable {prog : Program} {w : World} {A : Around} {R : Result → Shared → Prop} {I : Addr} {fp wr : List Addr} {G : Array GenState → Array GenState → Prop} {n : Nat} {P : Nat → Value → Prop} {St : Nat → Shared → Prop}
/-- what a set of texts holds after some turns -/
abbrev Got (prog : Program) (w : World) (h : Heap) (a : Addr) (l : List Str) : Prop := h.SetOf (PySem.strKind prog w) a (fun k => decide (k ∈ l)) (dedup l).length
theorem Got.at' {h h' : Heap} {a : Addr} {l : List Str} (g : Got prog w h a l) (k : ∀ o, h.get? a = some o → h'.get? a = some o) : Got prog w h' a l := by
  obtain ⟨o, es, ep, t, ho, r⟩ := g
  exact ⟨o, es, ep, t, k o ho, r⟩
theorem texts_in (W : WalksS prog w A.in1 I fp wr G n P St) {a : Addr} (ha : a ∉ fp) {xs : List Str} (hn : xs.length = n) (hb : n + 1 < scanBound) (hv : ∀ i v, P i v → ∃ t, v = .str (xs.getD i Str.empty) t) :
    ∀ (m i : Nat) (s : Shared), i + m = n → St i s → Got prog w s.heap a (xs.take i) →
      (∀ s1, PySem.Moved (a :: wr) G s s1 → Got prog w s1.heap a xs → R (.ok (.ret .none)) s1) →
      codeAny (model prog w) A (.builtin "set.update.loop" ⟨[.ref a, .ref I], []⟩) R s := by
  have aw : a ∉ wr := fun c => ha (W.sub _ c)
  have up : ∀ b ∈ wr, b ∈ a :: wr := fun b hb => List.mem_cons_of_mem _ hb
  intro m
  induction m with
  | zero =>
    intro i s hi st g hR
    have hi : i = n := by omega
    subst hi
    rw [← hn, List.take_length] at g
    refine codeAny_builtin PyProof.Rows.F.entry_set_update_loop ?_
    rw [Around.under_plainId PyProof.Rows.F.plain_set_update_loop _]
    refine wpAny_bind (m := pyNext (.ref I)) (W.done s _ _ st fun s1 mv => ?_)
    exact wpAny_pure (hR s1 (mv.mono up) (g.at' (mv.heap a · aw)))
  | succ m ih =>
    intro i s hi st g hR
    have hi' : i < n := by omega
    refine codeAny_builtin PyProof.Rows.F.entry_set_update_loop ?_
    rw [Around.under_plainId PyProof.Rows.F.plain_set_update_loop _]
    refine wpAny_bind (m := pyNext (.ref I)) (W.item i s _ _ hi' st fun v s1 pv st1 mv => ?_)
    obtain ⟨t, rfl⟩ := hv i v pv
    have g1 : Got prog w s1.heap a (xs.take i) := g.at' (mv.heap a · aw)
    show wpAny _ A.in1 (holding [Value.str (xs.getD i Str.empty) t] (setAdd a (.str (xs.getD i Str.empty) t)) >>= _) _ _ s1
    refine wpAny_bind (wpAny_holding ?_)
    unfold setAdd
    refine wpAny_holding (wpAny_bind ((PySem.strKind prog w).pyHash (k := xs.getD i Str.empty) (strKind_is _ _ _ _) ?_))
    have dl := dd_len (xs.take i)
    rw [List.length_take] at dl
    refine wpAny_setAddHashed_of (knd := PySem.strKind prog w) (s := { s1 with toks := s1.toks + 1 }) (strKind_is _ _ _ _) rfl g1 (by omega) fun h2 sb g2 => ?_
    have hx : xs.getD i Str.empty = xs[i]'(by omega) := by rw [List.getD_eq_getElem?_getD, List.getElem?_eq_getElem (by omega)]; rfl
    have ht : xs.take (i + 1) = xs.take i ++ [xs[i]'(by omega)] := by rw [List.take_add_one, List.getElem?_eq_getElem (by omega)]; rfl
    have g3 : Got prog w h2 a (xs.take (i + 1)) := by
      refine PyProof.Rows.SetOf_congr g2 (fun k => ?_) ?_
      · rw [hx, ht, Bool.eq_iff_iff]
        simp only [Bool.or_eq_true, decide_eq_true_eq, List.mem_append, List.mem_singleton]
      · rw [hx, ht, dd_snoc]
        by_cases c : xs[i]'(by omega) ∈ xs.take i
        · simp [c]
        · simp [c]
    refine wpAny_pure ⟨plainId_quiet PyProof.Rows.F.plain_set_update_loop _, ih (i + 1) _ (by omega) (W.frame _ s1 _ _ st1 (Nat.le_succ _) fun b hb o e => ?_) g3 fun s2 mv2 g4 => ?_⟩
    · exact (sb.2 b fun c => ha (c ▸ hb)).trans e
    · refine hR s2 (PySem.Moved.trans W.gtrans ((mv.mono up).then_heap (Nat.le_succ _) fun b o hb e => ?_) mv2) g4
      exact (sb.2 b fun c => hb (c ▸ List.mem_cons_self ..)).trans e
end
theorem text_at : ∀ {us : List Value} {xs : List Str}, PyProof.Rows.StrsAre us xs → ∀ (i : Nat) (v : Value), us[i]? = some v → ∃ t, v = .str (xs.getD i Str.empty) t
  | _, _, .nil, i, v, e => by simp at e
  | _, _, .cons x t r, 0, v, e => ⟨t, by simpa using e.symm⟩
  | _, _, .cons x t r, i + 1, v, e => text_at r i v (by simpa using e)
section
variable {prog : Program} {w : World} {A : Around} {E : Value → Shared → Prop} {s : Shared}
/-- a set's making, up to its __init__ -/
theorem call_set_by {v : Value} {Q : Value → Shared → Prop}
    (h : ∀ led : Bool, wpAny (model prog w) A.in1.in1 (Builtin.«set.__init__» ⟨[.ref s.heap.objs.size, v], []⟩)
      (fun fin s' => match fin with | .done f => wants (fun r s₂ => r = .none ∧ Q (.ref s.heap.objs.size) s₂) E (.ok f) s' | .again c' => c'.quiet = true ∧ codeAny (model prog w) A.in1 c' (wants (fun r s₂ => r = .none ∧ Q (.ref s.heap.objs.size) s₂) E) s')
      (fun e s' => wants (fun r s₂ => r = .none ∧ Q (.ref s.heap.objs.size) s₂) E (.error e) s') { s with heap := s.heap.push { cls := .type "set", dict := none, data := .set #[] 0 (.fresh 0 0 led) } }) :
    wpAny (model prog w) A (call (.type "set") [v]) Q E s := by
  obtain ⟨c, tl, g1⟩ := PySem.F.called_set.mro
  have g2 := PySem.F.called_set.made
  have g3 := PySem.F.called_set.sub
  have g4 := PySem.F.called_set.notType
  have g5 := PySem.F.called_set.canCreate
  have g6 := PySem.F.typeCall_set_1 v
  refine wpAny_call (codeAny_of_tree (show wpAny _ _ (callAny (.type "set") _) _ _ _ from wpAny_pure ⟨Code.quiet_builtin _ (by decide +kernel), codeAny_builtin PySem.F.entry_type_call ?_⟩))
  rw [Around.under_plain (weight_type_call_type "set" [v] []) rfl]
  repeat (any_goals (first | assumption | wp_step))
  refine codeAny_mono (code_set_new_1 v (E := E) (Q₁ := fun obj s1 => ∃ led : Bool, obj = .ref s.heap.objs.size ∧ s1 = { s with heap := s.heap.push { cls := .type "set", dict := none, data := .set #[] 0 (.fresh 0 0 led) } }) fun led => ⟨led, rfl, rfl⟩) fun r s1 hr => ?_
  match r, hr with
  | .error e, hr => exact hr
  | .ok (.ret obj), hr =>
    obtain ⟨led, e1, e2⟩ := hr
    subst e1 e2
    have hT : Shared.TypeIs { s with heap := s.heap.push { cls := .type "set", dict := none, data := .set #[] 0 (.fresh 0 0 led) } } (.ref s.heap.objs.size) "set" := ⟨_, Heap.get?_push_size _ rfl, rfl⟩
    have g7 := PySem.F.called_set.init.lookup
    have g8 := PySem.F.called_set.init.bind (.ref s.heap.objs.size)
    repeat (any_goals (first | assumption | wp_step))
    refine codeAny_mono (codeAny_call_builtin (R := wants (fun r s₂ => r = .none ∧ Q (.ref s.heap.objs.size) s₂) E) PySem.F.called_set.init.plain PySem.F.entry_set_init (check_set_init_1 hT (h led))) fun r2 s2 h2 => ?_
    match r2, h2 with
    | .error e, h2 => exact h2
    | .ok (.ret u), h2 =>
      obtain ⟨e3, h2⟩ := h2
      subst e3
      repeat (any_goals (first | assumption | wp_step))
set_option maxHeartbeats 3200000 in
theorem call_set_texts {T : String} (hT : T = "list" ∨ T = "tuple") {l : Addr} {ol : Obj} {items : Array Value} {nl : Nat} {xs : List Str} {Q : Value → Shared → Prop}
    (hh : A.handled = none) (ho : s.heap.get? l = some ol) (hc : ol.cls = .type T) (hd : ol.data = .seq items nl) (hi : PyProof.Rows.StrsAre items.toList xs) (hb : xs.length + 1 < scanBound)
    (h : ∀ (h1 : Heap) (tk : Nat), Got prog w h1 s.heap.objs.size xs → (∀ b o, b < s.heap.objs.size → s.heap.get? b = some o → h1.get? b = some o) → Q (.ref s.heap.objs.size) { s with heap := h1, toks := tk }) :
    wpAny (model prog w) A (call (.type "set") [.ref l]) Q E s := by
  refine call_set_by fun led => ?_
  have hS : (s.heap.push { cls := .type "set", dict := none, data := .set #[] 0 (.fresh 0 0 led) }).get? s.heap.objs.size = some { cls := .type "set", dict := none, data := .set #[] 0 (.fresh 0 0 led) } := Heap.get?_push_size _ rfl
  obtain ⟨ocls, odict, odata, oslots⟩ := ol
  simp only at hc hd
  subst hc hd
  have hl : (s.heap.push { cls := .type "set", dict := none, data := .set #[] 0 (.fresh 0 0 led) }).get? l = some { cls := .type T, dict := odict, data := .seq items nl, slots := oslots } := Heap.get?_push_of_some _ ho
  have hz : xs.length = items.size := by rw [← PyProof.Rows.StrsAre.len_eq hi, Array.length_toList]
  have hv : ∀ (i : Nat) (v : Value), items[i]? = some v → ∃ t, v = .str (xs.getD i Str.empty) t := fun i v e => text_at hi i v (by rw [Array.getElem?_toList]; exact e)
  rcases hT with rfl | rfl
  · have f1 := PySem.F.sub_list_set
    have f2 := PySem.F.sub_list_frozenset
    have f3 : (Value.type "list" == Value.type "dict") = false := by decide
    have hL : (s.heap.push { cls := .type "set", dict := none, data := .set #[] 0 (.fresh 0 0 led) }).IsList l items := ⟨_, hl, rfl, nl, rfl⟩
    unfold Builtin.«set.__init__» noKeywords Builtin.Frozenset.updateFrom
    generalize hPI : pyIter = PI
    wp_walk
    subst hPI
    refine wpAny_pyIter_list hL (wpAny_bind (wpAny_runValue ?_))
    have ls := Heap.lt_size ho
    have ne : l ≠ (s.heap.push { cls := .type "set", dict := none, data := .set #[] 0 (.fresh 0 0 led) }).objs.size := by rw [Heap.size_push]; exact Nat.ne_of_lt (Nat.lt_succ_of_lt ls)
    refine texts_in ((Walks.list (show A.in1.in1.in1.handled = none by simp [hh]) _ l ne items).toS) (a := s.heap.objs.size) (by
        rw [Heap.size_push]; simp only [List.mem_cons, List.not_mem_nil, or_false, not_or]; exact ⟨Nat.ne_of_lt (Nat.lt_succ_self _), Nat.ne_of_gt ls⟩) hz (by omega) hv items.size 0 _ (Nat.zero_add _)
      ⟨⟨_, Heap.get?_push_size _ rfl, rfl, rfl⟩, hL.push _⟩ (Got.at' (h := s.heap.push { cls := .type "set", dict := none, data := .set #[] 0 (.fresh 0 0 led) }) ?_ fun o e => Heap.get?_push_of_some _ e) fun s2 mv g => ?_
    · exact PyProof.Rows.SetOf_congr ((PyProof.Rows.setObjOf_fresh (knd := PySem.strKind prog w) led).setOf hS (by decide)) (fun k => by simp) rfl
    · obtain ⟨h2, k2, d2, t2, o2⟩ := s2
      have c1 : k2 = s.gens := mv.gens
      have c2 : d2 = s.drawn := mv.drawn
      have c3 : o2 = s.os := mv.os
      subst c1 c2 c3
      refine wpAny_pure ?_
      show wpAny _ _ (ret Value.none) _ _ _
      refine wpAny_pure ⟨rfl, h h2 t2 g fun b o lb e => mv.heap b o ?_ (Heap.get?_push_of_some _ (Heap.get?_push_of_some _ e))⟩
      rw [Heap.size_push]; simp only [List.mem_cons, List.not_mem_nil, or_false, not_or]; exact ⟨Nat.ne_of_lt lb, Nat.ne_of_lt (Nat.lt_succ_of_lt lb)⟩
  · have f1 := PySem.F.sub_tuple_set
    have f2 := PySem.F.sub_tuple_frozenset
    have f3 : (Value.type "tuple" == Value.type "dict") = false := by decide
    have hL : (s.heap.push { cls := .type "set", dict := none, data := .set #[] 0 (.fresh 0 0 led) }).IsTuple l items := ⟨_, hl, rfl, nl, rfl⟩
    unfold Builtin.«set.__init__» noKeywords Builtin.Frozenset.updateFrom
    generalize hPI : pyIter = PI
    wp_walk
    subst hPI
    refine wpAny_pyIter_tuple hL (wpAny_bind (wpAny_runValue ?_))
    have ls := Heap.lt_size ho
    have ne : l ≠ (s.heap.push { cls := .type "set", dict := none, data := .set #[] 0 (.fresh 0 0 led) }).objs.size := by rw [Heap.size_push]; exact Nat.ne_of_lt (Nat.lt_succ_of_lt ls)
    refine texts_in ((Walks.tuple (show A.in1.in1.in1.handled = none by simp [hh]) _ l ne items).toS) (a := s.heap.objs.size) (by
        rw [Heap.size_push]; simp only [List.mem_cons, List.not_mem_nil, or_false, not_or]; exact ⟨Nat.ne_of_lt (Nat.lt_succ_self _), Nat.ne_of_gt ls⟩) hz (by omega) hv items.size 0 _ (Nat.zero_add _)
      ⟨⟨_, Heap.get?_push_size _ rfl, rfl, rfl⟩, hL.push _⟩ (Got.at' (h := s.heap.push { cls := .type "set", dict := none, data := .set #[] 0 (.fresh 0 0 led) }) ?_ fun o e => Heap.get?_push_of_some _ e) fun s2 mv g => ?_
    · exact PyProof.Rows.SetOf_congr ((PyProof.Rows.setObjOf_fresh (knd := PySem.strKind prog w) led).setOf hS (by decide)) (fun k => by simp) rfl
    · obtain ⟨h2, k2, d2, t2, o2⟩ := s2
      have c1 : k2 = s.gens := mv.gens
      have c2 : d2 = s.drawn := mv.drawn
      have c3 : o2 = s.os := mv.os
      subst c1 c2 c3
      refine wpAny_pure ?_
      show wpAny _ _ (ret Value.none) _ _ _
      refine wpAny_pure ⟨rfl, h h2 t2 g fun b o lb e => mv.heap b o ?_ (Heap.get?_push_of_some _ (Heap.get?_push_of_some _ e))⟩
      rw [Heap.size_push]; simp only [List.mem_cons, List.not_mem_nil, or_false, not_or]; exact ⟨Nat.ne_of_lt lb, Nat.ne_of_lt (Nat.lt_succ_of_lt lb)⟩
end
theorem texts_are {ys : List Str} : ∀ {us : List Value}, Vals (ys.map V.str) us → PyProof.Rows.StrsAre us ys := by
  induction ys with
  | nil => intro us r; cases r; exact .nil
  | cons y ys ih =>
    intro us r
    cases r with
    | cons a b => obtain ⟨t, rfl⟩ := a; exact .cons y t (ih b)
def tLset (K : PySem.W.Frag) (ta : TE) : TE := fun σ H Q => ta σ H fun x H1 => (∃ (l : Addr) (ns : List Int), x = .ref l ∧ SqL K H1 l (ns.map V.int) ∧ ns.length ≤ 4000 ∧ Q (.int ((dedup ns).length : Nat)) H1) ∨
  ∃ (l : Addr) (ws : List Str), x = .ref l ∧ (SqL K H1 l (ws.map V.str) ∨ SqT K H1 l (ws.map V.str)) ∧ ws.length ≤ 4000 ∧ Q (.int ((dedup ws).length : Nat)) H1
theorem pe_lset {ta : TE} {p p2 q pos : Pos} (hg : Gl X "len") (hm : X.mg "len" = none) (hg2 : Gl X "set") (hm2 : X.mg "set" = none) (ha : PE X a ta) (hc : X.calm = true)
    (na : starEach [a] X.env = (false, eval a X.env) :: starEach [] X.env) : PE X (.Call (.Name "len" p) [.Call (.Name "set" p2) [a] [] q] [] pos) (tLset X.K ta) := by
  refine ⟨fun pins s σ H Q I h => ?_⟩
  refine Call_ (ld_blt I hg hm boot_len ?_)
  refine PyProof.Rows.callWith_builtin1 (PyProof.Rows.args_cons ?_ rfl) rfl rfl
  refine Call_ (ld_blt I hg2 hm2 boot_set ?_)
  refine PyProof.Rows.callWith_type1 (PyProof.Rows.args_cons (thn (ha.run pins s σ H _ I h) fun v s1 ⟨x, H1, I1, r1, q1⟩ => PyProof.Rows.args_nil ?_) na) na rfl
  rcases q1 with ⟨l, ns, rfl, hq, hl, q1⟩ | ⟨l, ws, rfl, hq, hl, q1⟩
  rotate_left
  · cases r1
    have fin : ∀ (h' : Heap) (tk : Nat), Got X.prog X.w h' s1.heap.objs.size ws → (∀ b o, b < s1.heap.objs.size → s1.heap.get? b = some o → h'.get? b = some o) →
        wpAny (model X.prog X.w) X.A (spliced (backTo pos (starEach [] X.env))) (fun vs s₂ => wpAny (model X.prog X.w) X.A (call (.builtin "len") (Value.ref s1.heap.objs.size :: vs)) (EP X pins σ Q) X.xe s₂) X.xe { s1 with heap := h', toks := tk } := fun h' tk hS hk => by
      refine PyProof.Rows.args_nil ?_
      obtain ⟨o, es, ep, t, e1, e2, e3, _, _, _, e4, e5⟩ := hS
      have I2 : Inv X pins σ H1 { s1 with heap := h', toks := tk } := I1.kept fun b o e => hk b o (Heap.lt_size e) e
      have dl := dd_len ws
      exact call_len_set e1 e2 e3 e4 (by rw [e5] <;> omega) ⟨.int (dedup ws).length, H1, I2.tok _, ⟨_, by rw [e5]⟩, q1⟩
    rcases hq with hq | hq
    · obtain ⟨its, r, pl, _⟩ := I1.list hq
      obtain ⟨ol, e1, e2, nl, e3⟩ := pl.isList
      exact call_set_texts (.inl rfl) (I1.ok.hd hc) e1 e2 e3 (by simpa using texts_are r) (by unfold scanBound; omega) fun h' tk hS hk => fin h' tk hS hk
    · obtain ⟨its, r, pl, _⟩ := I1.tuple hq
      obtain ⟨ol, e1, e2, nl, e3⟩ := pl
      exact call_set_texts (.inr rfl) (I1.ok.hd hc) e1 e2 e3 (by simpa using texts_are r) (by unfold scanBound; omega) fun h' tk hS hk => fin h' tk hS hk
  cases r1
  obtain ⟨its, r, pl, hz⟩ := I1.list hq
  have hlen : its.toArray.size = ns.length := by rw [List.size_toArray, ← r.length, List.length_map]
  refine call_set_list (I1.ok.hd hc) pl.isList (by simpa using RZ.intsAre_vals r) (by rw [hlen]; unfold scanBound; omega) fun h' tk hS hk => ?_
  refine PyProof.Rows.args_nil ?_
  rw [hlen, firstMet_dedup ns.length (Nat.le_refl _), List.take_length] at hS
  obtain ⟨o, es, ep, t, ho, hex, hd, _, _, _, hf, hn⟩ := hS
  have I2 : Inv X pins σ H1 { s1 with heap := h', toks := tk } := I1.kept fun b o e => hk b o (Heap.lt_size e) e
  have hdl : ∀ l : List Int, (dedup l).length ≤ l.length := by
    intro l
    have : ∀ (l acc : List Int), (l.foldl (fun a x => if x ∈ a then a else a ++ [x]) acc).length ≤ acc.length + l.length := by
      intro l
      induction l with
      | nil => intro acc; simp
      | cons y r ih =>
        intro acc
        rw [List.foldl_cons]
        refine Nat.le_trans (ih _) ?_
        split <;> simp <;> omega
    simpa [dedup] using this l []
  have hd2 := hdl ns
  exact call_len_set ho hex hd hf (by rw [hn] <;> omega) ⟨.int (dedup ns).length, H1, I2.tok _, ⟨_, by rw [hn]⟩, q1⟩
theorem se_lset {p p2 q : Pos} (g : Good F G L k X) (hg : Gl X "len") (hg2 : Gl X "set") (ha : PE X a (tE X.K (W F G k) G x)) (he : ∀ u q, a ≠ .Starred u q) :
    PE X (.Call (.Name "len" p) [.Call (.Name "set" p2) [a] [] q] [] pos) (tE X.K (W F G k) G (.lset x)) :=
  PE.imp (pe_lset hg (g.no (by decide +kernel)) hg2 (g.no (by decide +kernel)) ha g.calm (starEach_ne he _ _)) fun τ H Q ⟨σ, S, Q', rs, r, w, kk⟩ => by
    simp only [wpE] at w
    refine tE.mk rs r w fun d S1 v H1 f1 r1 q1 w1 => ?_
    rcases w1 with ⟨ad, u, ns, rfl, hs, hi, hl, w1⟩ | ⟨u, ws, hs, hi, hl, w1⟩
    · cases q1
      obtain ⟨vs, z, q2⟩ := r1.lst hs
      rw [q2.intsOf hi] at z
      exact .inl ⟨_, ns, rfl, .of z, hl, (kk.on f1).at r1 (.int _) w1⟩
    · obtain ⟨p, ys, rfl, q2, z⟩ := seqOf_ok r1 q1 hs
      rw [q2.strsOf hi] at z
      exact .inr ⟨_, ws, rfl, z, hl, (kk.on f1).at r1 (.int _) w1⟩
/-! ### texts -/
theorem se_fmt {p : Pos} (ha : PE X a (tE X.K (W F G k) G x)) : PE X (.FormattedValue a (-1) none p) (tE X.K (W F G k) G (.fmt x)) :=
  PE.imp (pe_fmt ha) fun τ H Q ⟨σ, S, Q', rs, r, w, kk⟩ => by
    simp only [wpE] at w
    refine tE.mk rs r w fun d S1 v H1 f1 r1 q1 w1 => ?_
    rcases w1 with ⟨y, rfl, hl, w1⟩ | ⟨i, rfl, hl, w1⟩
    · cases q1; exact .inl ⟨y, rfl, hl, (kk.on f1).at r1 (.str _) w1⟩
    · cases q1; exact .inr ⟨i, rfl, hl, (kk.on f1).at r1 (.str _) w1⟩
theorem js_ok {ms : List E} {Q' : Str → Sto → Prop} {σ : Sl} {τ : L2.St} : ∀ {ms : List E} {acc : Str} {S : Sto} {H : Hp} {Q : Str → Hp → Prop}, RSl X.K H σ τ → RS X.K S H → wpJs (W F G k) G ms acc σ S X0 Q' → (∀ z S1 H1, Fr S H S1 H1 → RS X.K S1 H1 → Q' z S1 → Q z H1) →
    tJs (ms.map fun m => tE X.K (W F G k) G m) acc τ H Q
  | [], acc, S, H, Q, rs, r, w, kk => kk _ _ _ .refl r (by simpa only [wpJs] using w)
  | m :: ms, acc, S, H, Q, rs, r, w, kk => by
    simp only [wpJs] at w
    refine tE.mk rs r w fun d S1 v H1 f1 r1 q1 w1 => ?_
    obtain ⟨y, rfl, hl, w1⟩ := w1
    cases q1
    exact ⟨y, rfl, hl, js_ok (ms := ms) (rs.stay (f1.stay r)) r1 w1 fun z S2 H2 f2 => kk z S2 H2 (f1.trans f2)⟩
theorem se_fst {es : List Expr} {ms : List E} {p : Pos} (h : PJ X es (ms.map fun m => tE X.K (W F G k) G m)) (hl : 2 ≤ es.length) : PE X (.JoinedStr es p) (tE X.K (W F G k) G (.fst ms)) := by
  match es, h, hl with
  | _ :: _ :: _, h, _ =>
    refine PE.imp (pe_joined h) fun τ H Q ⟨σ, S, Q', rs, r, w, kk⟩ => ?_
    simp only [wpE] at w
    exact js_ok (ms := ms) rs r w fun z S1 H1 f1 r1 w1 => (kk.on f1).at r1 (.str _) w1
  | [_], _, hl => simp at hl
  | [], _, hl => exact absurd hl (by decide)
theorem se_join {o : Expr} {ap cp : Pos} (hb : ∀ p q r, o ≠ .Call (.Name p q) [] [] r) (hline : (ap.endLine == cp.line) = true) (he : ∀ u q, a ≠ .Starred u q) (ho : PE X o (tE X.K (W F G k) G x)) (ha : PE X a (tE X.K (W F G k) G y)) :
    PE X (.Call (.Attribute o "join" ap) [a] [] cp) (tE X.K (W F G k) G (.join x y)) :=
  PE.imp (pe_join ho ha (by rw [starEach_ne he]; rfl) (base_of hb _) hline) fun τ H Q ⟨σ, S, Q', rs, r, w, kk⟩ => by
    simp only [wpE] at w
    refine tE.mk rs r w fun d S1 v H1 f1 r1 q1 w1 => ?_
    obtain ⟨⟨z, rfl⟩, w1⟩ := w1
    cases q1
    refine ⟨⟨z, rfl⟩, tE.mk (rs.stay (f1.stay r)) r1 w1 fun d2 S2 u H2 f2 r2 q2 w2 => ?_⟩
    obtain ⟨z', us, ys, e, hs, hy, hl, w2⟩ := w2
    cases e
    obtain ⟨pa, vs, rfl, q3, sq⟩ := seqOf_ok r2 q2 hs
    rw [q3.strsOf hy] at sq
    exact ⟨_, pa, ys, rfl, rfl, sq, hl, (kk.on (f1.trans f2)).at r2 (.str _) w2⟩
/-! ### items, slices -/
theorem se_ix (g : Good F G L k X) (hp : plainIx b = true) (ha : PE X a (tE X.K (W F G k) G x)) (hb : PE X b (tE X.K (W F G k) G y)) : PE X (.Subscript a b pos) (tE X.K (W F G k) G (.ix x y)) := by
  have hs : PlainIx b := fun o i => by
    cases b <;> first | rfl | cases hp
  refine PE.imp (pe_ix (ix_all g.un) ha hb hs) fun τ H Q ⟨σ, S, Q', rs, r, w, kk⟩ => ?_
  simp only [wpE] at w
  exact tE.mk rs r w fun d S1 v H1 f1 r1 q1 w1 => tE.mk (rs.stay (f1.stay r)) r1 w1 fun d2 S2 u H2 f2 r2 q2 w2 => pIx_ok r2 (q1.stay (f2.stay r1)) q2 (kk.on (f1.trans f2)) w2
theorem so_none : PO X none (tO X.K (W F G k) G []) := PO.imp po_none fun τ H Q ⟨σ, S, Q', rs, r, w, kk⟩ => by
  simp only [wpEs] at w
  obtain ⟨i, e, w⟩ := w
  cases e
  exact kk _ _ _ .refl r w
theorem so_some (ha : PE X a (tE X.K (W F G k) G x)) : PO X (some a) (tO X.K (W F G k) G [x]) := PO.imp (po_some ha) fun τ H Q ⟨σ, S, Q', rs, r, w, kk⟩ => by
  simp only [wpEs] at w
  refine tE.mk rs r w fun d S1 v H1 f1 r1 q1 w1 => ?_
  obtain ⟨i, e, w1⟩ := w1
  cases q1 with
  | int j => cases e; exact ⟨j, rfl, kk _ _ _ f1 r1 w1⟩
  | _ => cases e
theorem se_sl {lo hi : Option Expr} {l h : List E} {p : Pos} (ha : PE X a (tE X.K (W F G k) G x)) (hl : PO X lo (tO X.K (W F G k) G l)) (hh : PO X hi (tO X.K (W F G k) G h)) : PE X (.Subscript a (.Slice lo hi none p) pos) (tE X.K (W F G k) G (.sl x l h)) := by
  refine PE.imp (pe_slice sl_all ha hl hh) fun τ H Q ⟨σ, S, Q', rs, r, w, kk⟩ => ?_
  simp only [wpE] at w
  refine tE.mk rs r w fun d S1 v H1 f1 r1 q1 w1 => ⟨σ, S1, _, rs.stay (f1.stay r), r1, w1, fun i S2 H2 f2 r2 w2 => ⟨σ, S2, _, rs.stay ((f1.trans f2).stay r), r2, w2, fun j S3 H3 f3 r3 w3 => ?_⟩⟩
  exact pSl_ok r3 (q1.stay ((f2.trans f3).stay r1)) (kk.on ((f1.trans f2).trans f3)) w3
end
end Mp

namespace Mp
open PySem L2 PySem.Spec PyProof.Rows

/-! ## what a loop walks -/
/-- an iterator gives these items while chk holds -/
structure ItOk (K : PySem.W.Frag) (J : It) (u : List D) (chk : Sto → Prop) (S1 : Sto) (H1 : Hp) : Prop where
  go : ∀ (i : Nat) S' H', i < u.length → Fr S1 H1 S' H' → RS K S' H' → chk S' → J.go i H'
  yld : ∀ (i : Nat) (d : D) S' H' x H'', u[i]? = some d → Fr S1 H1 S' H' → RS K S' H' → chk S' → J.yld i H' x H'' → RD K H'' d x ∧ RS K S' H'' ∧ Fr S' H' S' H''
  stop : ∀ (i : Nat) S' H', u.length ≤ i → Fr S1 H1 S' H' → RS K S' H' → chk S' → J.stop i H'
def iM (K : PySem.W.Frag) (Wf : Callee) (G : Str → Option Str) (kk : Ik) (its : List E) : TI := fun τ H R => ∃ (σ : Sl) (S : Sto) (Q' : List D → (Sto → Prop) → Sto → Prop), RSl K H σ τ ∧ RS K S H ∧
  wpEs Wf G its σ S X0 (fun xs S1 => pItK kk xs S1 fun u chk => Q' u chk S1) ∧ ∀ u chk S1 H1 J, Fr S H S1 H1 → RS K S1 H1 → ItOk K J u chk S1 H1 → Q' u chk S1 → R J H1
theorem PI.imp {X : Cx} {tg e : Expr} {t t' : TI} (h : PI X tg e t) (f : ∀ σ H Q, t' σ H Q → t σ H Q) : PI X tg e t' := ⟨fun pins s σ H Q I q => h.run pins s σ H Q I (f σ H Q q)⟩
section
variable {X : Cx} {F : Str → Option Fn} {G : Str → Option Str} {L : List Str} {k : Nat} {a b c e tg : Expr} {x y z : E} {pos : Pos}
/-- a list, a tuple, a text by its value -/
def iVal (K : PySem.W.Frag) (te : TE) : TI := fun σ H R => te σ H fun v H1 => (∃ a xs, v = .ref a ∧ SqL K H1 a xs ∧ R (Itl K a) H1) ∨ (∃ a xs, v = .ref a ∧ SqT K H1 a xs ∧ R (Itt K a) H1) ∨ ∃ z, v = .str z ∧ R (Its z) H1
theorem pi_valM {te : TE} (he : PE X e te) : PI X tg e (iVal X.K te) := by
  constructor
  intro pins s σ H R I h
  refine thn (he.run pins s σ H _ I h) ?_
  rintro v s1 ⟨y, H1, I1, r1, ⟨a, xs, rfl, sq, q⟩ | ⟨a, xs, rfl, sq, q⟩ | ⟨z, rfl, q⟩⟩
  · cases r1
    obtain ⟨its, _, pl, _⟩ := I1.list sq
    exact wpAny_pyIter_list pl.isList (pi_one (tk := s1.toks) I1 _ (turn_list a _) ⟨_, Heap.get?_push_size _ rfl, rfl, rfl⟩ q)
  · cases r1
    obtain ⟨its, _, pl, _⟩ := I1.tuple sq
    exact wpAny_pyIter_tuple pl (pi_one (tk := s1.toks) I1 _ (turn_tuple a _) ⟨_, Heap.get?_push_size _ rfl, rfl, rfl⟩ q)
  · obtain ⟨t, rfl⟩ := r1
    by_cases ha : z.cps.all (· < 128) = true
    · exact wpAny_pyIter_ascii ha (pi_one (tk := s1.toks) I1 _ (turn_str _ z t _ (.inl rfl)) ⟨_, Heap.get?_push_size _ rfl, rfl, rfl⟩ q)
    · exact wpAny_pyIter_wide (by simpa using ha) (pi_one (tk := s1.toks) I1 _ (turn_str _ z t _ (.inr rfl)) ⟨_, Heap.get?_push_size _ rfl, rfl, rfl⟩ q)
theorem itok_lst {K : PySem.W.Frag} {a : Addr} {u : List D} {S1 : Sto} {H1 : Hp} : ItOk K (Itl K a) u (fun S => S a = some (.lst u)) S1 H1 where
  go := fun i S' H' hi _ r h => by
    obtain ⟨vs, z, q⟩ := r.lst h
    obtain ⟨w, hw, _⟩ := q.get (List.getElem?_eq_getElem hi)
    exact ⟨vs, w, .of z, hw⟩
  yld := fun i d S' H' x H'' hd _ r h y => by
    obtain ⟨e, y⟩ := y
    subst e
    obtain ⟨vs, z, q⟩ := r.lst h
    obtain ⟨w, hw, rd⟩ := q.get hd
    have := y vs (.of z)
    rw [hw] at this; cases this
    exact ⟨rd, r, .refl⟩
  stop := fun i S' H' hi _ r h => by
    obtain ⟨vs, z, q⟩ := r.lst h
    exact ⟨vs, .of z, by rw [← q.length]; exact hi⟩
theorem itok_tup {K : PySem.W.Frag} {a : Addr} {u : List D} {vs : List V} {S1 : Sto} {H1 : Hp} (r1 : RS K S1 H1) (z : H1 a = some (.tup vs)) (q : RDs K H1 u vs) : ItOk K (Itt K a) u (fun _ => True) S1 H1 where
  go := fun i S' H' hi f r _ => by
    obtain ⟨w, hw, _⟩ := q.get (List.getElem?_eq_getElem hi)
    exact ⟨vs, w, .of ((f.stay r1).1 _ _ z), hw⟩
  yld := fun i d S' H' x H'' hd f r _ y => by
    obtain ⟨e, y⟩ := y
    subst e
    obtain ⟨w, hw, rd⟩ := q.get hd
    have := y vs (.of ((f.stay r1).1 _ _ z))
    rw [hw] at this; cases this
    exact ⟨rd.stay (f.stay r1), r, .refl⟩
  stop := fun i S' H' hi f r _ => ⟨vs, .of ((f.stay r1).1 _ _ z), by rw [← q.length]; exact hi⟩
theorem itok_scr {K : PySem.W.Frag} {a : Addr} {u : List Int} {S1 : Sto} {H1 : Hp} (r1 : RS K S1 H1) (z : ScrAt K H1 a (u.map V.int)) : ItOk K (Itl K a) (u.map .int) (fun _ => True) S1 H1 := by
  have st : ∀ S' H', Fr S1 H1 S' H' → SqL K H' a (u.map V.int) := fun S' H' f => by
    have s := f.stay r1
    exact ScrAt.sq (z.elim (fun ⟨o, y⟩ => .inl ⟨o, s.2 _ _ _ y⟩) .inr)
  refine ⟨fun i S' H' hi f r _ => ?_, fun i d S' H' x H'' hd f r _ y => ?_, fun i S' H' hi f r _ => ⟨_, st S' H' f, by simpa using hi⟩⟩
  · rw [List.length_map] at hi
    exact ⟨_, .int u[i], st S' H' f, by rw [List.getElem?_map, List.getElem?_eq_getElem hi]; rfl⟩
  · obtain ⟨e, y⟩ := y
    subst e
    have := y _ (st S' _ f)
    rw [List.getElem?_map] at this hd
    cases hu : u[i]? with
    | none => rw [hu] at hd; cases hd
    | some j => rw [hu] at hd this; cases hd; cases this; exact ⟨.int j, r, .refl⟩
theorem itok_str {K : PySem.W.Frag} {z : Str} {S1 : Sto} {H1 : Hp} : ItOk K (Its z) (z.cps.toList.map fun c => .str ⟨#[c]⟩) (fun _ => True) S1 H1 := by
  refine ⟨fun i S' H' hi f r _ => (by simpa using hi : i < z.cps.size), fun i d S' H' x H'' hd f r _ y => ?_, fun i S' H' hi f r _ => (by simpa using hi : z.cps.size ≤ i)⟩
  obtain ⟨e, c, hc, y⟩ := y
  subst e y
  rw [List.getElem?_map, Array.getElem?_toList, hc] at hd
  cases hd
  exact ⟨.str _, r, .refl⟩
theorem si_val (ha : PE X a (tE X.K (W F G k) G x)) : PI X tg a (iM X.K (W F G k) G .val [x]) := by
  refine PI.imp (pi_valM ha) fun τ H R ⟨σ, S, Q', rs, r, w, kk⟩ => ?_
  simp only [wpEs] at w
  refine tE.mk rs r w fun d S1 v H1 f1 r1 q1 w1 => ?_
  obtain ⟨nl, w1⟩ := (show _ ∧ pIt d S1 fun u chk => Q' u chk S1 from w1)
  cases q1 with
  | tup e q => exact .inr (.inl ⟨_, _, rfl, .of e, kk _ _ _ _ _ f1 r1 (itok_tup r1 e q) w1⟩)
  | scr e => exact .inl ⟨_, _, rfl, e.sq, kk _ _ _ _ _ f1 r1 (itok_scr r1 e) w1⟩
  | str z => exact .inr (.inr ⟨z, rfl, kk _ _ _ _ _ f1 r1 itok_str w1⟩)
  | ref p =>
    unfold pIt at w1
    dsimp only at w1
    split at w1
    · rename_i e
      obtain ⟨vs, z, q⟩ := r1.lst e
      exact .inl ⟨_, _, rfl, .of z, kk _ _ _ _ _ f1 r1 itok_lst w1⟩
    · rename_i e; exact absurd e (nl _ _ rfl)
    · exact w1.elim
  | _ => exact w1.elim
theorem pget {K : PySem.W.Frag} {H : Hp} : ∀ {kvs : List (Key × D)} {ls : List (Key × V)}, RKv K H kvs ls → ∀ (i : Nat) (h : i < kvs.length) (h' : i < ls.length), kvs[i].1 = ls[i].1
  | _, _, .cons h t, 0, _, _ => h.1
  | _, _, .cons h t, i + 1, h1, h2 => pget t i (by simpa using h1) (by simpa using h2)
/-- the keys of a locked dict -/
theorem itok_keys {K : PySem.W.Frag} {a : Addr} {o : Obj} {kvs : List (Key × D)} {ls : List (Key × V)} {S1 : Sto} {H1 : Hp} (rk : RKv K H1 kvs ls) (hs : S1 a = some (.lck kvs)) (hz : H1 a = some (.frz o (.dK ls))) :
    ItOk K (Itk a o ls) (kvs.map fun kv => kD kv.1) (fun S => S a = some (.lck kvs)) S1 H1 := by
  have ln : kvs.length = ls.length := Paired.length rk
  have at_ : ∀ {i : Nat}, i < kvs.length → ∃ p q, kvs[i]? = some p ∧ ls[i]? = some q ∧ p.1 = q.1 := fun {i} hi => by
    have := rk.keys
    refine ⟨kvs[i], ls[i], List.getElem?_eq_getElem hi, List.getElem?_eq_getElem (ln ▸ hi), ?_⟩
    exact pget rk i hi (ln ▸ hi)
  refine ⟨fun i S' H' hi f r _ => ⟨(f.2 a kvs hs).2.trans hz, by rw [List.length_map] at hi; omega⟩, fun i d S' H' x H'' hd f r _ y => ?_, fun i S' H' hi f r _ => ⟨(f.2 a kvs hs).2.trans hz, by rw [List.length_map] at hi; omega⟩⟩
  obtain ⟨e, k, v, hk, rfl⟩ := y
  subst e
  rw [List.getElem?_map] at hd
  cases hp : kvs[i]? with
  | none => rw [hp] at hd; cases hd
  | some p =>
    rw [hp] at hd; cases hd
    obtain ⟨hi, _⟩ := List.getElem?_eq_some_iff.mp hp
    obtain ⟨p', q', h1, h2, h3⟩ := at_ hi
    rw [hp] at h1; cases h1
    rw [hk] at h2; cases h2
    have h3 : p.1 = k := h3
    subst h3
    exact ⟨kD_rd _, r, .refl⟩
theorem PI.or {t1 t2 : TI} (h1 : PI X tg a t1) (h2 : PI X tg a t2) : PI X tg a (fun σ H R => t1 σ H R ∨ t2 σ H R) := ⟨fun pins s σ H R I q => q.elim (fun q => h1.run pins s σ H R I q) fun q => h2.run pins s σ H R I q⟩
theorem si_nam {i : Nat} {u : Str} (hN : X.N[i]? = some u) (hv : Vis X.env.scope u) (hd : (u == ("__debug__" : Str)) = false) (hc : (u == ("__classdict__" : Str)) = false) : PI X tg (.Name u pos) (iM X.K (W F G k) G .nam [.v i]) := by
  have ha : PE X (.Name u pos) (tVar i) := pe_var hN hv hd hc
  refine PI.imp (PI.or (pi_valM ha) (pi_keys ha)) fun τ H R ⟨σ, S, Q', rs, r, w, kk⟩ => ?_
  simp only [wpEs, wpE] at w
  obtain ⟨d, hd, w⟩ := w
  have w1 : pIt d S fun u chk => Q' u chk S := w
  obtain ⟨v, hv, q1⟩ := rs.2 i d hd
  cases q1 with
  | tup e q => exact .inl ⟨_, hv, .inr (.inl ⟨_, _, rfl, .of e, kk _ _ _ _ _ .refl r (itok_tup r e q) w1⟩)⟩
  | scr e => exact .inl ⟨_, hv, .inl ⟨_, _, rfl, e.sq, kk _ _ _ _ _ .refl r (itok_scr r e) w1⟩⟩
  | str z => exact .inl ⟨_, hv, .inr (.inr ⟨z, rfl, kk _ _ _ _ _ .refl r itok_str w1⟩)⟩
  | ref p =>
    unfold pIt at w1
    dsimp only at w1
    split at w1
    · rename_i e
      obtain ⟨vs, z, q⟩ := r.lst e
      exact .inl ⟨_, hv, .inl ⟨_, _, rfl, .of z, kk _ _ _ _ _ .refl r itok_lst w1⟩⟩
    · rename_i e
      obtain ⟨o, ls, z, q⟩ := r _ _ e
      exact .inr ⟨_, hv, p, o, rfl, .inl ⟨ls, z, kk _ _ _ _ _ .refl r (itok_keys q e z) w1⟩⟩
    · exact w1.elim
  | _ => exact w1.elim
/-! ### side by side -/
theorem itok_zipL {K : PySem.W.Frag} {a b : Addr} {u v : List D} {S1 : Sto} {H1 : Hp} : ItOk K (Itz K a b) ((u.zip v).map fun p => .tup [p.1, p.2]) (fun S => S a = some (.lst u) ∧ S b = some (.lst v)) S1 H1 := by
  have ln : ((u.zip v).map fun p => D.tup [p.1, p.2]).length = min u.length v.length := by rw [List.length_map, List.length_zip]
  refine ⟨fun i S' H' hi f r h => ?_, fun i d S' H' x H'' hd f r h y => ?_, fun i S' H' hi f r h => ?_⟩
  · obtain ⟨xs, z, q⟩ := r.lst h.1
    obtain ⟨ys, z', q'⟩ := r.lst h.2
    rw [ln] at hi
    obtain ⟨x, hx, _⟩ := q.get (List.getElem?_eq_getElem (by omega : i < u.length))
    obtain ⟨y, hy, _⟩ := q'.get (List.getElem?_eq_getElem (by omega : i < v.length))
    exact ⟨xs, ys, x, y, .of z, .of z', hx, hy⟩
  · obtain ⟨T, x1, y1, rfl, hT, rfl, h1, h2⟩ := y
    obtain ⟨xs, z, q⟩ := r.lst h.1
    obtain ⟨ys, z', q'⟩ := r.lst h.2
    rw [List.getElem?_map] at hd
    cases hz : (u.zip v)[i]? with
    | none => rw [hz] at hd; cases hd
    | some p =>
      rw [hz] at hd; cases hd
      obtain ⟨e1, e2⟩ := List.getElem?_zip_eq_some.mp hz
      obtain ⟨x2, g1, r1⟩ := q.get e1
      obtain ⟨y2, g2, r2⟩ := q'.get e2
      rw [h1 xs (.of z)] at g1; cases g1
      rw [h2 ys (.of z')] at g2; cases g2
      have st := stay_new hT (.tup [x1, y1])
      exact ⟨.tup upd_same (.cons (r1.stay st) (.cons (r2.stay st) .nil)), r.out hT _, Fr.out r hT _⟩
  · obtain ⟨xs, z, q⟩ := r.lst h.1
    obtain ⟨ys, z', q'⟩ := r.lst h.2
    rw [ln] at hi
    exact ⟨xs, ys, .of z, .of z', by rw [← q.length, ← q'.length]; omega⟩
theorem itok_zipT {K : PySem.W.Frag} {a b : Addr} {u v : List D} {xs ys : List V} {S1 : Sto} {H1 : Hp} (r1 : RS K S1 H1) (z : H1 a = some (.tup xs)) (q : RDs K H1 u xs) (z' : H1 b = some (.tup ys)) (q' : RDs K H1 v ys) :
    ItOk K (RZ.ItzT K a b) ((u.zip v).map fun p => .tup [p.1, p.2]) (fun _ => True) S1 H1 := by
  have ln : ((u.zip v).map fun p => D.tup [p.1, p.2]).length = min u.length v.length := by rw [List.length_map, List.length_zip]
  refine ⟨fun i S' H' hi f r h => ?_, fun i d S' H' x H'' hd f r h y => ?_, fun i S' H' hi f r h => ?_⟩
  · rw [ln] at hi
    obtain ⟨x, hx, _⟩ := q.get (List.getElem?_eq_getElem (by omega : i < u.length))
    obtain ⟨y, hy, _⟩ := q'.get (List.getElem?_eq_getElem (by omega : i < v.length))
    exact ⟨xs, ys, x, y, .of ((f.stay r1).1 _ _ z), .of ((f.stay r1).1 _ _ z'), hx, hy⟩
  · obtain ⟨T, x1, y1, rfl, hT, rfl, h1, h2⟩ := y
    rw [List.getElem?_map] at hd
    cases hz : (u.zip v)[i]? with
    | none => rw [hz] at hd; cases hd
    | some p =>
      rw [hz] at hd; cases hd
      obtain ⟨e1, e2⟩ := List.getElem?_zip_eq_some.mp hz
      obtain ⟨x2, g1, r1'⟩ := q.get e1
      obtain ⟨y2, g2, r2'⟩ := q'.get e2
      rw [h1 xs (.of ((f.stay r1).1 _ _ z))] at g1; cases g1
      rw [h2 ys (.of ((f.stay r1).1 _ _ z'))] at g2; cases g2
      have st := stay_new hT (.tup [x1, y1])
      exact ⟨.tup upd_same (.cons ((r1'.stay (f.stay r1)).stay st) (.cons ((r2'.stay (f.stay r1)).stay st) .nil)), r.out hT _, Fr.out r hT _⟩
  · rw [ln] at hi
    exact ⟨xs, ys, .of ((f.stay r1).1 _ _ z), .of ((f.stay r1).1 _ _ z'), by rw [← q.length, ← q'.length]; omega⟩
theorem si_zip {es : List Expr} {kk : Nat} {tp p : Pos} {l : List E} (g : Good F G L k X) (hg : Gl X "zip") (ha : PA X [a, b] (tEs X.K (W F G k) G l)) (hl : l.length = 2) (hne : ∀ u p, a ≠ .Starred u p) (hne2 : ∀ u p, b ≠ .Starred u p) :
    PI X (.Tuple es kk tp) (.Call (.Name "zip" p) [a, b] [] pos) (iM X.K (W F G k) G .zip l) := by
  refine PI.imp (RZ.pi_zipA hg (g.no (by decide +kernel)) ha (starEach_ne hne _ _) (by rw [starEach_ne hne2]; rfl)) fun τ H R ⟨σ, S, Q', rs, r, w, kk⟩ => ?_
  refine ⟨σ, S, _, rs, r, w, fun ds S1 vs H1 hd f1 r1 q1 w1 => ?_⟩
  match ds, hd with
  | [d1, d2], _ =>
    cases q1 with
    | cons qa qb => cases qb with
      | cons qb qc =>
        cases qc
        cases qa with
        | tup e q =>
          cases qb with
          | tup e' q' => exact ⟨_, _, _, _, rfl, .inr ⟨.of e, .of e', kk _ _ _ _ _ f1 r1 (itok_zipT r1 e q e' q') w1⟩⟩
          | _ => exact w1.elim
        | ref p =>
          cases qb with
          | ref p' =>
            unfold pItK at w1
            dsimp only at w1
            split at w1
            · rename_i e e'
              obtain ⟨vs, z, _⟩ := r1.lst e
              obtain ⟨vs', z', _⟩ := r1.lst e'
              exact ⟨_, _, _, _, rfl, .inl ⟨.of z, .of z', kk _ _ _ _ _ f1 r1 itok_zipL w1⟩⟩
            · exact w1.elim
          | _ => exact w1.elim
        | _ => exact w1.elim
  | [], hd => rw [hl] at hd; cases hd
  | [_], hd => rw [hl] at hd; cases hd
  | _ :: _ :: _ :: _, hd => rw [hl] at hd; cases hd
theorem itok_rng {K : PySem.W.Frag} {lo hi : Int} {n : Nat} (hn : n = (hi - lo).toNat) {S1 : Sto} {H1 : Hp} : ItOk K (Itr lo n) (rgOf lo hi) (fun _ => True) S1 H1 := by
  subst hn
  have ln : (rgOf lo hi).length = (hi - lo).toNat := by simp [rgOf]
  refine ⟨fun i S' H' hi f r _ => (by rw [ln] at hi; exact hi), fun i d S' H' x H'' hd f r _ y => ?_, fun i S' H' hi f r _ => (by rw [ln] at hi; exact hi)⟩
  obtain ⟨e, y⟩ := y
  subst e y
  unfold rgOf at hd
  rw [List.getElem?_map] at hd
  cases h : (List.range (hi - lo).toNat)[i]? with
  | none => rw [h] at hd; cases hd
  | some j =>
    rw [h] at hd
    cases hd
    obtain ⟨_, h2⟩ := List.getElem?_eq_some_iff.mp h
    rw [List.getElem_range] at h2
    subst h2
    exact ⟨.int _, r, .refl⟩
theorem si_rng1 {p : Pos} {l : List E} (g : Good F G L k X) (hg : Gl X "range") (ha : PA X [a] (tEs X.K (W F G k) G l)) (hl : l.length = 1) (hne : ∀ u p, a ≠ .Starred u p) : PI X tg (.Call (.Name "range" p) [a] [] pos) (iM X.K (W F G k) G .rng l) := by
  refine PI.imp (pi_range1 hg (g.no (by decide +kernel)) ha (starEach_ne hne _ _)) fun τ H R ⟨σ, S, Q', rs, r, w, kk⟩ => ?_
  refine ⟨σ, S, _, rs, r, w, fun ds S1 vs H1 hd f1 r1 q1 w1 => ?_⟩
  match ds, q1, w1, hd with
  | [_], .cons (.int j) .nil, w1, _ => exact ⟨j, rfl, w1.1.1, w1.1.2, kk _ _ _ _ _ f1 r1 (itok_rng (by simp)) w1.2⟩
  | _ :: _ :: _, _, _, hd => rw [hl] at hd; cases hd
theorem si_rng2 {p : Pos} {l : List E} (g : Good F G L k X) (hg : Gl X "range") (ha : PA X [a, b] (tEs X.K (W F G k) G l)) (hl : l.length = 2) (hne : ∀ u p, a ≠ .Starred u p) (hne2 : ∀ u p, b ≠ .Starred u p) :
    PI X tg (.Call (.Name "range" p) [a, b] [] pos) (iM X.K (W F G k) G .rng l) := by
  refine PI.imp (pi_range2 hg (g.no (by decide +kernel)) ha (by rw [starEach_ne hne, starEach_ne hne2]; rfl) (starEach_ne hne2 _ _)) fun τ H R ⟨σ, S, Q', rs, r, w, kk⟩ => ?_
  refine ⟨σ, S, _, rs, r, w, fun ds S1 vs H1 hd f1 r1 q1 w1 => ?_⟩
  match ds, hd with
  | [d1, d2], _ =>
    cases q1 with
    | cons qa qb => cases qb with
      | cons qb qc =>
        cases qc
        cases qa <;> first | exact w1.elim | skip
        cases qb <;> first | exact w1.elim | skip
        exact ⟨_, _, rfl, ⟨w1.1.1.1, w1.1.1.2, w1.1.2.1, w1.1.2.2⟩, kk _ _ _ _ _ f1 r1 (itok_rng rfl) w1.2⟩
  | [], hd => rw [hl] at hd; cases hd
  | [_], hd => rw [hl] at hd; cases hd
  | _ :: _ :: _ :: _, hd => rw [hl] at hd; cases hd
/-! ### targets -/
def gNames : List Nat → TGs
  | [] => gNil
  | i :: is => gCons (gName i) (gNames is)
def gOf (K : PySem.W.Frag) : Tg → TG
  | .one i => gName i
  | .tup is => gTup K is.length (gNames is)
theorem gNames_ok {K : PySem.W.Frag} {H : Hp} {R : Sl → Prop} {Q : L2.St → Hp → Prop} : ∀ {is : List Nat} {ds : List D} {vs : List V} {σ : Sl} {τ : L2.St}, RDs K H ds vs → ds.length = is.length → RSl K H σ τ → R (setAll is ds σ) →
    (∀ σ' τ', σ' = setAll is ds σ → RSl K H σ' τ' → (∀ own : List Nat, (∀ i ∈ is, i ∈ own) → wipe τ' own = wipe τ own) → Q τ' H) → gNames is vs τ H Q
  | [], _, _, σ, τ, .nil, _, rs, h, q => ⟨rfl, q σ τ rfl rs fun _ _ => rfl⟩
  | [], _, _, _, _, .cons _ _, hl, _, _, _ => by cases hl
  | i :: is, _, _, _, _, .nil, hl, _, _, _ => by cases hl
  | i :: is, d :: ds, v :: vs, σ, τ, .cons a b, hl, rs, h, q => by
    refine ⟨v, vs, rfl, gNames_ok (is := is) b (by simpa using hl) (rs.set a i) h fun σ' τ' e rs' hw => q σ' τ' e rs' fun own ho => ?_⟩
    rw [hw own fun j hj => ho j (List.mem_cons_of_mem _ hj)]
    have hi := ho i (List.mem_cons_self ..)
    clear hw ho q h rs hl rs' e
    induction own with
    | nil => cases hi
    | cons w ws ih =>
      unfold wipe
      by_cases e : i = w
      · subst e
        by_cases m : i ∈ ws
        · rw [ih m]
        · have out : ∀ (l : List Nat), i ∉ l → (wipe (τ.set i (some v)) l).set i none = (wipe τ l).set i none := by
            intro l
            induction l with
            | nil => intro _; unfold wipe; rw [List.set_set]
            | cons y l ih2 =>
              intro hm
              rw [List.mem_cons, not_or] at hm
              unfold wipe
              rw [List.set_comm _ _ (fun z => hm.1 z.symm), ih2 hm.2, List.set_comm _ _ hm.1]
          exact out ws m
      · rw [ih ((List.mem_cons.mp hi).resolve_left e)]
theorem gOf_ok {K : PySem.W.Frag} {H : Hp} {R : Sl → Prop} {Q : L2.St → Hp → Prop} {t : Tg} {d : D} {v : V} {σ : Sl} {τ : L2.St} (q : RD K H d v) (rs : RSl K H σ τ) (h : wpTg t d σ R)
    (kk : ∀ σ' τ', R σ' → RSl K H σ' τ' → (∀ own : List Nat, (∀ i ∈ t.slots, i ∈ own) → wipe τ' own = wipe τ own) → Q τ' H) : gOf K t v τ H Q := by
  cases t with
  | one i =>
    have z := gNames_ok (is := [i]) (R := R) (Q := Q) (.cons q .nil) rfl rs h (fun σ' τ' e rs' hw => kk σ' τ' (by rw [e]; exact h) rs' fun own ho => hw own ho)
    obtain ⟨w, r, e, z⟩ := z
    cases e
    exact z.2
  | tup is =>
    cases q with
    | tup e q' => exact ⟨_, _, rfl, .of e, by rw [← q'.length]; exact h.1, gNames_ok q' h.1 rs h.2 fun σ' τ' e rs' hw => kk σ' τ' (by rw [e]; exact h.2) rs' fun own ho => hw own ho⟩
    | _ => exact h.elim
theorem storeOf_ok {N : List Str} {sc : Scope} {e : Expr} {i : Nat} (h : storeOf N sc e = some i) : ∃ x p, e = .Name x p ∧ Loc sc x ∧ N[i]? = some x := by
  have slot : ∀ (x : Str) (N : List Str) (k i : Nat), slotOf N x k = some i → k ≤ i ∧ N[i - k]? = some x := by
    intro x N
    induction N with
    | nil => intro k i h; cases h
    | cons y r ih =>
      intro k i h
      unfold slotOf at h
      split at h
      · rename_i e; cases h; subst e; exact ⟨Nat.le_refl _, by simp⟩
      · obtain ⟨h1, h2⟩ := ih (k + 1) i h
        refine ⟨by omega, ?_⟩
        have : i - k = (i - (k + 1)) + 1 := by omega
        rw [this]; simpa using h2
  unfold storeOf at h
  split at h
  · rename_i x p
    split at h
    · rename_i e; exact ⟨x, p, rfl, .inl e, (slot x N 0 i h).2⟩
    · rename_i e; exact ⟨x, p, rfl, .inr e, (slot x N 0 i h).2⟩
    · cases h
  · cases h
/-- the names that a scope stores are stored in the frame that runs -/
def Stores (X : Cx) (sc : Scope) : Prop := ∀ x, Loc sc x → Loc X.env.scope x ∧ (X.fn x = true ∨ X.env.scope.names.lookup x = some .local)
theorem storesOf_ok {N : List Str} {sc : Scope} (hN : X.N = N) (nd : N.Nodup) (hf : Stores X sc) : ∀ {es : List Expr} {is : List Nat}, storesOf N sc es = some is → PGs X es (gNames is) ∧ es.length = is.length ∧ ∀ e ∈ es, ∃ x p, e = .Name x p
  | [], is, h => by cases h; exact ⟨pgs_nil, rfl, fun _ z => nomatch z⟩
  | e :: es, is, h => by
    unfold storesOf at h
    split at h
    · rename_i i l h1 h2
      cases h
      obtain ⟨x, p, rfl, hl, hi⟩ := storeOf_ok h1
      obtain ⟨a, b, c⟩ := storesOf_ok hN nd hf h2
      obtain ⟨hl, hfx⟩ := hf x hl
      refine ⟨pgs_cons (pg_name (by rw [hN]; exact nd) (by rw [hN]; exact hi) hl hfx) a, congrArg (· + 1) b, fun e he => ?_⟩
      rcases List.mem_cons.mp he with rfl | he
      · exact ⟨x, p, rfl⟩
      · exact c e he
    · cases h
theorem assignEach_names : ∀ {es : List Expr} {env : PySem.Env}, (∀ e ∈ es, ∃ x p, e = .Name x p) → (assignEach es env).length = es.length ∧ (assignEach es env).findIdx? (·.1) = none
  | [], _, _ => ⟨rfl, rfl⟩
  | e :: es, env, h => by
    obtain ⟨x, p, rfl⟩ := h e (List.mem_cons_self ..)
    obtain ⟨a, b⟩ := assignEach_names (env := env) fun y hy => h y (List.mem_cons_of_mem _ hy)
    refine ⟨congrArg (· + 1) a, ?_⟩
    show ((false, assign (.Name x p) env) :: assignEach es env).findIdx? (·.1) = none
    rw [List.findIdx?_cons]
    simp [b]
theorem sg_of {N : List Str} {sc : Scope} {t : Tg} (hN : X.N = N) (nd : N.Nodup) (hc : X.calm = true) (hf : Stores X sc) (h : trTg N sc tg = some t) : PG X tg (gOf X.K t) := by
  unfold trTg at h
  split at h
  · rename_i es j p
    cases e : storesOf N sc es with
    | none => rw [e] at h; cases h
    | some is =>
      rw [e] at h; cases h
      obtain ⟨a, b, c⟩ := storesOf_ok hN nd hf e
      obtain ⟨l1, l2⟩ := assignEach_names (env := X.env) c
      exact pg_tup hc a (by rw [l1, b]) l2
  · cases e : storeOf N sc tg with
    | none => rw [e] at h; cases h
    | some i =>
      rw [e] at h; cases h
      obtain ⟨x, p, rfl, hl, hi⟩ := storeOf_ok e
      obtain ⟨hl, hfx⟩ := hf x hl
      exact pg_name (by rw [hN]; exact nd) (by rw [hN]; exact hi) hl hfx
end
end Mp

namespace Mp
open PySem L2
/-! ### list(zip(a, b)): what zip gives while its last tuple is still held -/
abbrev ZipHeld (h : Heap) (z TI TO T : Addr) (b : Bool) : Prop :=
  h.get? z = some { cls := .type "zip", dict := none, data := .fields #[rawInt T, .bool b, .bool false, .ref TI, .ref TO], slots := #[] }
section
variable {prog : Program} {w : World} {A : Around} {E : Value → Shared → Prop} {s : Shared}
set_option maxHeartbeats 1000000 in
/-- the check: the last tuple lives, so the own tuple is not free -/
theorem held_free {z TI TO T : Addr} {b : Bool} {oT : Obj} {Q : Bool → Shared → Prop} (hz : ZipHeld s.heap z TI TO T b) (hT : s.heap.get? T = some oT)
    (h : ∀ h', ZipHeld h' z TI TO T true → Heap.SameBut z s.heap h' → Q false { s with heap := h' }) : wpAny (model prog w) A (Builtin.SmallTypes.ownedTupleIsFree (.ref z)) Q E s := by
  unfold Builtin.SmallTypes.ownedTupleIsFree
  refine wpAny_bind (wpAny_field hz rfl (x := .int (T : Int) 0) rfl ?_)
  show wpAny _ _ (loadIfAlive (T : Int).toNat >>= _) _ _ _
  rw [Int.toNat_natCast]
  refine wpAny_bind (PySem.W.kdx_alive hT ?_)
  rw [if_neg (show ¬ ((some oT).isNone = true) from Bool.false_ne_true)]
  refine wpAny_bind (wpAny_field hz rfl (x := .bool b) rfl ?_)
  cases b with
  | true => exact wpAny_pure (h s.heap hz (Heap.SameBut.refl _ _))
  | false =>
    show wpAny _ _ (setField (.ref z) 1 (.bool true) >>= _) _ _ _
    exact wpAny_bind (wpAny_setField_rec hz (by simp) fun h1 z1 s1 => wpAny_pure (h h1 z1 s1))
set_option maxHeartbeats 2000000 in
theorem held_item {z TI TO T i1 i2 l1 l2 : Addr} {b : Bool} {oT : Obj} {k1 k2 : Nat} {xs ys : Array Value} {x y : Value} {Q : Value → Shared → Prop} (D : ZipApart z TI TO i1 i2 l1 l2)
    (hz : ZipHeld s.heap z TI TO T b) (hT : s.heap.get? T = some oT) (hTI : IsPair s.heap TI (.ref i1) (.ref i2))
    (h1 : s.heap.IsTupleIter i1 l1 k1) (h2 : s.heap.IsTupleIter i2 l2 k2) (hl1 : s.heap.IsTuple l1 xs) (hl2 : s.heap.IsTuple l2 ys) (hx : xs[k1]? = some x) (hy : ys[k2]? = some y)
    (hQ : ∀ h', ZipHeld h' z TI TO T true → h'.IsTupleIter i1 l1 (k1 + 1) → h'.IsTupleIter i2 l2 (k2 + 1) → IsPair h' s.heap.objs.size x y → h'.objs.size = s.heap.objs.size + 1 →
      (∀ c o, c ≠ z → c ≠ i1 → c ≠ i2 → s.heap.get? c = some o → h'.get? c = some o) → Q (.ref s.heap.objs.size) { s with heap := h' }) :
    wpAny (model prog w) A (Builtin.«zip.__next__» ⟨[.ref z], []⟩) (fun fin s' => ∃ v, fin = .done (.ret v) ∧ Q v s') E s := by
  show wpAny _ _ (field (.ref z) 2 >>= _) _ _ _
  refine wpAny_bind (wpAny_field hz rfl (x := .bool false) rfl ?_)
  show wpAny _ _ (field (.ref z) 3 >>= _) _ _ _
  refine wpAny_bind (wpAny_field hz rfl (x := .ref TI) rfl ?_)
  refine wpAny_bind (wpAny_seqItems hTI rfl ?_)
  show wpAny _ _ (Builtin.SmallTypes.ownedTupleIsFree (.ref z) >>= _) _ _ _
  refine wpAny_bind (held_free hz hT fun ha za sa => ?_)
  rw [if_neg Bool.false_ne_true]
  dsimp only
  simp only [List.forIn_toArray, List.forIn_cons, List.forIn_nil]
  refine wpAny_bind (wpAny_bind (wpAny_bind (wpAny_holding ?_)))
  show wpAny _ _ (Builtin.SmallTypes.nextOf (.ref i1) >>= _) _ _ _
  refine wpAny_bind (RZ.nextOf_tuple_item (h1.extBut sa.extBut D.i1z) (hl1.extBut sa.extBut D.l1z) hx fun hb t1 sb => wpAny_pure ?_)
  refine wpAny_pure ?_
  refine wpAny_bind (wpAny_bind (wpAny_holding ?_))
  show wpAny _ _ (Builtin.SmallTypes.nextOf (.ref i2) >>= _) _ _ _
  refine wpAny_bind (RZ.nextOf_tuple_item ((h2.extBut sa.extBut D.i2z).extBut sb.extBut D.i12.symm) ((hl2.extBut sa.extBut D.l2z).extBut sb.extBut D.l2i1) hy fun hc t2 sc => wpAny_pure ?_)
  refine wpAny_pure (wpAny_pure ?_)
  refine wpAny_bind (m := newTuple [x, y]) (wpAny_newTuple ?_)
  have hs : hc.objs.size = s.heap.objs.size := by rw [sc.1, sb.1, sa.1]
  have lt : ∀ {c : Addr} {o : Obj}, hc.get? c = some o → c < hc.objs.size := fun e => Heap.lt_size e
  have keep : ∀ c o, c ≠ z → c ≠ i1 → c ≠ i2 → s.heap.get? c = some o → (hc.push { cls := .type "tuple", data := .seq #[x, y] }).get? c = some o := fun c o c1 c2 c3 e =>
    Heap.get?_push_of_some _ ((sc.2 c c3).trans ((sb.2 c c2).trans ((sa.2 c c1).trans e)))
  have zc : ZipHeld (hc.push { cls := .type "tuple", data := .seq #[x, y] }) z TI TO T true := Heap.get?_push_of_some _ ((sc.2 z D.i2z.symm).trans ((sb.2 z D.i1z.symm).trans za))
  have fin := hQ (hc.push { cls := .type "tuple", data := .seq #[x, y] }) zc ((t1.extBut sc.extBut D.i12).at fun o e => Heap.get?_push_of_some _ e) (t2.at fun o e => Heap.get?_push_of_some _ e) (by rw [← hs]; exact Heap.get?_push_size _ rfl) (by rw [Heap.size_push, hs]) keep
  refine wpAny_pure ⟨_, rfl, ?_⟩
  show Q (.ref hc.objs.size) _
  rw [hs]
  exact fin
set_option maxHeartbeats 2000000 in
theorem held_end {z TI TO T i1 i2 l1 l2 : Addr} {b : Bool} {oT : Obj} {k1 : Nat} {xs : Array Value} {Q : Fin → Shared → Prop} (hh : A.handled = none) (D : ZipApart z TI TO i1 i2 l1 l2)
    (hz : ZipHeld s.heap z TI TO T b) (hT : s.heap.get? T = some oT) (hTI : IsPair s.heap TI (.ref i1) (.ref i2))
    (h1 : s.heap.IsTupleIter i1 l1 k1) (hl1 : s.heap.IsTuple l1 xs) (hx : xs[k1]? = none)
    (hE : ∀ h' e, (∀ c o, c ≠ z → c ≠ i1 → s.heap.get? c = some o → h'.get? c = some o) → (∃ o, h'.get? e = some o ∧ o.cls = .type "StopIteration") → E (.ref e) { s with heap := h' }) :
    wpAny (model prog w) A (Builtin.«zip.__next__» ⟨[.ref z], []⟩) Q E s := by
  show wpAny _ _ (field (.ref z) 2 >>= _) _ _ _
  refine wpAny_bind (wpAny_field hz rfl (x := .bool false) rfl ?_)
  show wpAny _ _ (field (.ref z) 3 >>= _) _ _ _
  refine wpAny_bind (wpAny_field hz rfl (x := .ref TI) rfl ?_)
  refine wpAny_bind (wpAny_seqItems hTI rfl ?_)
  show wpAny _ _ (Builtin.SmallTypes.ownedTupleIsFree (.ref z) >>= _) _ _ _
  refine wpAny_bind (held_free hz hT fun ha za sa => ?_)
  rw [if_neg Bool.false_ne_true]
  dsimp only
  simp only [List.forIn_toArray, List.forIn_cons, List.forIn_nil]
  refine wpAny_bind (wpAny_bind (wpAny_bind (wpAny_holding ?_)))
  show wpAny _ _ (Builtin.SmallTypes.nextOf (.ref i1) >>= _) _ _ _
  refine wpAny_bind (RZ.nextOf_tuple_end hh (h1.extBut sa.extBut D.i1z) (hl1.extBut sa.extBut D.l1z) hx fun hb e sb he => ?_)
  exact hE hb e (fun c o c1 c2 q => sb c o c2 ((sa.2 c c1).trans q)) he
/-- the same through pyNext -/
theorem next_held_item {z TI TO T i1 i2 l1 l2 : Addr} {b : Bool} {oT : Obj} {k1 k2 : Nat} {xs ys : Array Value} {x y : Value} {Q : Option Value → Shared → Prop} (D : ZipApart z TI TO i1 i2 l1 l2)
    (hz : ZipHeld s.heap z TI TO T b) (hT : s.heap.get? T = some oT) (hTI : IsPair s.heap TI (.ref i1) (.ref i2))
    (h1 : s.heap.IsTupleIter i1 l1 k1) (h2 : s.heap.IsTupleIter i2 l2 k2) (hl1 : s.heap.IsTuple l1 xs) (hl2 : s.heap.IsTuple l2 ys) (hx : xs[k1]? = some x) (hy : ys[k2]? = some y)
    (hQ : ∀ h', ZipHeld h' z TI TO T true → h'.IsTupleIter i1 l1 (k1 + 1) → h'.IsTupleIter i2 l2 (k2 + 1) → IsPair h' s.heap.objs.size x y → h'.objs.size = s.heap.objs.size + 1 →
      (∀ c o, c ≠ z → c ≠ i1 → c ≠ i2 → s.heap.get? c = some o → h'.get? c = some o) → Q (some (.ref s.heap.objs.size)) { s with heap := h' }) :
    wpAny (model prog w) A (pyNext (.ref z)) Q E s := by
  have t : s.TypeIs (.ref z) "zip" := ⟨_, hz, rfl⟩
  unfold pyNext
  exact wpAny_bind (wpAny_attempt (wpAny_callSpecial?_slot (name := Str.ofString "__next__") t F.slot_zip_next
    (wpAny_call_entry F.slot_zip_next t F.entry_zip_next
      (held_item D hz hT hTI h1 h2 hl1 hl2 hx hy fun h' a1 a2 a3 a4 a5 a6 => wpAny_pure (hQ h' a1 a2 a3 a4 a5 a6)) (F.args_zip_next_1 _))))
theorem next_held_end {z TI TO T i1 i2 l1 l2 : Addr} {b : Bool} {oT : Obj} {k1 : Nat} {xs : Array Value} {Q : Option Value → Shared → Prop} (hh : A.handled = none) (D : ZipApart z TI TO i1 i2 l1 l2)
    (hz : ZipHeld s.heap z TI TO T b) (hT : s.heap.get? T = some oT) (hTI : IsPair s.heap TI (.ref i1) (.ref i2))
    (h1 : s.heap.IsTupleIter i1 l1 k1) (hl1 : s.heap.IsTuple l1 xs) (hx : xs[k1]? = none)
    (hQ : ∀ h', (∀ c o, c ≠ z → c ≠ i1 → s.heap.get? c = some o → h'.get? c = some o) → Q none { s with heap := h' }) : wpAny (model prog w) A (pyNext (.ref z)) Q E s := by
  have t : s.TypeIs (.ref z) "zip" := ⟨_, hz, rfl⟩
  unfold pyNext
  refine wpAny_bind (wpAny_attempt (wpAny_callSpecial?_slot (name := Str.ofString "__next__") t F.slot_zip_next
    (wpAny_call_entry F.slot_zip_next t F.entry_zip_next (held_end hh D hz hT hTI h1 hl1 hx fun h' e hk he => ?_) (F.args_zip_next_1 _))))
  obtain ⟨o, ho, hc⟩ := he
  exact wpAny_bind (wpAny_isInstance (T := "StopIteration") (b := true) ⟨o, ho, hc⟩ isSubtype_stop (wpAny_pure (hQ _ hk)))
end
end Mp

namespace Mp
open PySem L2
/-! ### list(zip(a, b)): the walk -/
structure ZL (h0 h : Heap) (z TI TO i1 i2 l1 l2 S : Addr) (xs ys : Array Value) (i : Nat) (acc : Array Value) (c : Nat) (as : List Addr) : Prop where
  zip : (as = [] ∧ IsZip h z TI TO .none ∧ ∃ a b, IsPair h TO a b) ∨ ∃ T b, T ∈ as ∧ ZipHeld h z TI TO T b
  ti : IsPair h TI (.ref i1) (.ref i2)
  t1 : h.IsTupleIter i1 l1 i
  t2 : h.IsTupleIter i2 l2 i
  lst : h.get? S = some { cls := .type "list", dict := none, data := .seq acc c, slots := #[] }
  acc : acc.toList = as.map Value.ref
  len : as.length = i
  prs : ∀ (j : Nat) (a : Addr), as[j]? = some a → ∃ x y, xs[j]? = some x ∧ ys[j]? = some y ∧ IsPair h a x y
  new : ∀ a ∈ as, S < a
  asc : as.Pairwise (· < ·)
  old : ∀ b o, h0.get? b = some o → h.get? b = some o
/-- the addresses of the walk lie above what was there, apart from each other -/
structure ZA (h0 : Heap) (z TI TO i1 i2 l1 l2 S : Addr) : Prop where
  D : ZipApart z TI TO i1 i2 l1 l2
  z0 : h0.objs.size ≤ z
  o0 : h0.objs.size ≤ TO
  a0 : h0.objs.size ≤ i1
  b0 : h0.objs.size ≤ i2
  s0 : h0.objs.size ≤ S
  zS : z < S
  iS : TI < S
  oS : TO < S
  aS : i1 < S
  bS : i2 < S
section
variable {prog : Program} {w : World} {A : Around} {R : Result → Shared → Prop} {h0 : Heap} {z TI TO i1 i2 l1 l2 S : Addr} {xs ys : Array Value}
/-- one more: the new tuple, then the list -/
theorem ZL.step {h h1 : Heap} {i c : Nat} {acc : Array Value} {as : List Addr} {x y : Value} (P : ZA h0 z TI TO i1 i2 l1 l2 S) (L : ZL h0 h z TI TO i1 i2 l1 l2 S xs ys i acc c as) (hx : xs[i]? = some x) (hy : ys[i]? = some y)
    (b : Bool) (T : Addr) (hT : T ∈ as ++ [h.objs.size]) (hz : ZipHeld h1 z TI TO T b) (t1 : h1.IsTupleIter i1 l1 (i + 1)) (t2 : h1.IsTupleIter i2 l2 (i + 1)) (hp : IsPair h1 h.objs.size x y) (hs : h1.objs.size = h.objs.size + 1)
    (keep : ∀ c o, c ≠ z → c ≠ TO → c ≠ i1 → c ≠ i2 → h.get? c = some o → h1.get? c = some o) :
    ∃ c' h2, h2 = h1.update S (Obj.mapSeq (·.push (.ref h.objs.size))) ∧ ZL h0 h2 z TI TO i1 i2 l1 l2 S xs ys (i + 1) (acc.push (.ref h.objs.size)) c' (as ++ [h.objs.size]) := by
  have hS1 : h1.get? S = some { cls := .type "list", dict := none, data := .seq acc c, slots := #[] } := keep S _ (Nat.ne_of_gt P.zS) (Nat.ne_of_gt P.oS) (Nat.ne_of_gt P.aS) (Nat.ne_of_gt P.bS) L.lst
  have hSl : S < h.objs.size := Heap.lt_size L.lst
  have hS2 := Heap.get?_update_self (Obj.mapSeq (·.push (Value.ref h.objs.size))) hS1 rfl
  have oth : ∀ b o, b ≠ S → h1.get? b = some o → (h1.update S (Obj.mapSeq (·.push (Value.ref h.objs.size)))).get? b = some o := fun b o hb e => (Heap.get?_update_other _ _ (Ne.symm hb)).trans e
  refine ⟨_, _, rfl, {
    zip := .inr ⟨T, b, hT, oth z _ (Nat.ne_of_lt P.zS) hz⟩
    ti := oth TI _ (Nat.ne_of_lt P.iS) (keep TI _ P.D.TIz P.D.TITO P.D.TIi1 P.D.TIi2 L.ti)
    t1 := t1.at fun o e => oth i1 o (Nat.ne_of_lt P.aS) e
    t2 := t2.at fun o e => oth i2 o (Nat.ne_of_lt P.bS) e
    lst := hS2
    acc := by rw [Array.toList_push, L.acc, List.map_append]; rfl
    len := by rw [List.length_append, L.len]; rfl
    prs := fun j a e => by
      by_cases hj : j < as.length
      · rw [List.getElem?_append_left hj] at e
        obtain ⟨u, v, e1, e2, e3⟩ := L.prs j a e
        have ha : S < a := L.new a (List.mem_of_getElem? e)
        refine ⟨u, v, e1, e2, oth a _ (Nat.ne_of_gt ha) (keep a _ ?_ ?_ ?_ ?_ e3)⟩
        · exact Nat.ne_of_gt (Nat.lt_trans P.zS ha)
        · exact Nat.ne_of_gt (Nat.lt_trans P.oS ha)
        · exact Nat.ne_of_gt (Nat.lt_trans P.aS ha)
        · exact Nat.ne_of_gt (Nat.lt_trans P.bS ha)
      · rw [List.getElem?_append_right (by omega)] at e
        have h0 : j - as.length = 0 := by
          cases hk : j - as.length with
          | zero => rfl
          | succ k => rw [hk] at e; cases e
        rw [h0] at e
        have ea : h.objs.size = a := Option.some.inj e
        have ej : j = i := by have := L.len; omega
        subst ea ej
        exact ⟨x, y, hx, hy, oth _ _ (Nat.ne_of_gt hSl) hp⟩
    new := fun a ha => by
      rcases List.mem_append.mp ha with ha | ha
      · exact L.new a ha
      · rw [List.mem_singleton.mp ha]; exact hSl
    asc := by
      rw [List.pairwise_append]
      refine ⟨L.asc, by simp, fun a ha b hb => ?_⟩
      rw [List.mem_singleton.mp hb]
      obtain ⟨j, hj⟩ := List.mem_iff_getElem?.mp ha
      obtain ⟨_, _, _, _, e⟩ := L.prs j a hj
      exact Heap.lt_size e
    old := fun b o e => by
      have hb := Heap.lt_size e
      refine oth b o (Nat.ne_of_lt (Nat.lt_of_lt_of_le hb P.s0)) (keep b o ?_ ?_ ?_ ?_ (L.old b o e))
      · exact Nat.ne_of_lt (Nat.lt_of_lt_of_le hb P.z0)
      · exact Nat.ne_of_lt (Nat.lt_of_lt_of_le hb P.o0)
      · exact Nat.ne_of_lt (Nat.lt_of_lt_of_le hb P.a0)
      · exact Nat.ne_of_lt (Nat.lt_of_lt_of_le hb P.b0) }⟩
end
end Mp

namespace Mp
open PySem L2
structure ZF (h0 h : Heap) (S : Addr) (xs ys : Array Value) (n : Nat) (acc : Array Value) (c : Nat) (as : List Addr) : Prop where
  lst : h.get? S = some { cls := .type "list", dict := none, data := .seq acc c, slots := #[] }
  acc : acc.toList = as.map Value.ref
  len : as.length = n
  prs : ∀ (j : Nat) (a : Addr), as[j]? = some a → ∃ x y, xs[j]? = some x ∧ ys[j]? = some y ∧ IsPair h a x y
  new : ∀ a ∈ as, S < a
  asc : as.Pairwise (· < ·)
  old : ∀ b o, h0.get? b = some o → h.get? b = some o
section
variable {prog : Program} {w : World} {A : Around} {R : Result → Shared → Prop} {h0 : Heap} {z TI TO i1 i2 l1 l2 S : Addr} {xs ys : Array Value}
theorem ZL.fin {h h1 : Heap} {n c : Nat} {acc : Array Value} {as : List Addr} (P : ZA h0 z TI TO i1 i2 l1 l2 S) (L : ZL h0 h z TI TO i1 i2 l1 l2 S xs ys n acc c as)
    (keep : ∀ c o, c ≠ z → c ≠ TO → c ≠ i1 → c ≠ i2 → h.get? c = some o → h1.get? c = some o) : ZF h0 h1 S xs ys n acc c as where
  lst := keep S _ (Nat.ne_of_gt P.zS) (Nat.ne_of_gt P.oS) (Nat.ne_of_gt P.aS) (Nat.ne_of_gt P.bS) L.lst
  acc := L.acc
  len := L.len
  prs := fun j a e => by
    obtain ⟨u, v, e1, e2, e3⟩ := L.prs j a e
    have ha : S < a := L.new a (List.mem_of_getElem? e)
    exact ⟨u, v, e1, e2, keep a _ (Nat.ne_of_gt (Nat.lt_trans P.zS ha)) (Nat.ne_of_gt (Nat.lt_trans P.oS ha)) (Nat.ne_of_gt (Nat.lt_trans P.aS ha)) (Nat.ne_of_gt (Nat.lt_trans P.bS ha)) e3⟩
  new := L.new
  asc := L.asc
  old := fun b o e => by
    have hb := Heap.lt_size e
    exact keep b o (Nat.ne_of_lt (Nat.lt_of_lt_of_le hb P.z0)) (Nat.ne_of_lt (Nat.lt_of_lt_of_le hb P.o0)) (Nat.ne_of_lt (Nat.lt_of_lt_of_le hb P.a0)) (Nat.ne_of_lt (Nat.lt_of_lt_of_le hb P.b0)) (L.old b o e)
theorem zip_loop (hh : A.handled = none) (P : ZA h0 z TI TO i1 i2 l1 l2 S) (hl1 : h0.IsTuple l1 xs) (hl2 : h0.IsTuple l2 ys) (res : Value) {n : Nat} (hn : n ≤ sizeLine) (hx : xs.size = n) (hy : ys.size = n) :
    ∀ (m i : Nat) (s : Shared) (acc : Array Value) (c : Nat) (as : List Addr), i + m = n → ZL h0 s.heap z TI TO i1 i2 l1 l2 S xs ys i acc c as →
      (∀ (h' : Heap) acc' c' as', ZF h0 h' S xs ys n acc' c' as' → R (.ok (.ret res)) { s with heap := h' }) →
      codeAny (model prog w) A (.builtin "list.extend.loop" ⟨[.ref S, .ref z, res], []⟩) R s := by
  intro m
  induction m with
  | zero =>
    intro i s acc c as hi L hR
    have hi : i = n := by omega
    subst hi
    have g1 : s.heap.IsTuple l1 xs := hl1.at fun o e => L.old l1 o e
    have g2 : s.heap.IsTuple l2 ys := hl2.at fun o e => L.old l2 o e
    have e1 : xs[i]? = none := Array.getElem?_eq_none (by omega)
    refine codeAny_builtin F.entry_extend_loop ?_
    rw [Around.under_plainId F.plain_extend_loop _]
    show wpAny _ A.in1 (pyNext (.ref z) >>= _) _ _ s
    rcases L.zip with ⟨_, hz, a, b, hTO⟩ | ⟨T, b, hT, hz⟩
    · exact wpAny_bind (RZ.pyNext_zipT_end hh P.D hz L.ti hTO L.t1 L.t2 g1 g2 (.inl e1) fun h' hk => wpAny_pure (hR h' _ _ _ (L.fin P hk)))
    · obtain ⟨j, hj⟩ := List.mem_iff_getElem?.mp hT
      obtain ⟨_, _, _, _, e3⟩ := L.prs j T hj
      exact wpAny_bind (next_held_end hh P.D hz e3 L.ti L.t1 g1 e1 fun h' hk => wpAny_pure (hR h' _ _ _ (L.fin P fun c o c1 _ c3 _ => hk c o c1 c3)))
  | succ m ih =>
    intro i s acc c as hi L hR
    have g1 : s.heap.IsTuple l1 xs := hl1.at fun o e => L.old l1 o e
    have g2 : s.heap.IsTuple l2 ys := hl2.at fun o e => L.old l2 o e
    have e1 : xs[i]? = some (xs[i]'(by omega)) := Array.getElem?_eq_getElem (by omega)
    have e2 : ys[i]? = some (ys[i]'(by omega)) := Array.getElem?_eq_getElem (by omega)
    have asz : acc.size = i := by rw [← Array.length_toList, L.acc, List.length_map, L.len]
    have go : ∀ (h1 : Heap) (b : Bool) (T : Addr), T ∈ as ++ [s.heap.objs.size] → ZipHeld h1 z TI TO T b → h1.IsTupleIter i1 l1 (i + 1) → h1.IsTupleIter i2 l2 (i + 1) → IsPair h1 s.heap.objs.size (xs[i]'(by omega)) (ys[i]'(by omega)) → h1.objs.size = s.heap.objs.size + 1 →
        (∀ c o, c ≠ z → c ≠ TO → c ≠ i1 → c ≠ i2 → s.heap.get? c = some o → h1.get? c = some o) →
        wpAny (model prog w) A.in1 (updateSeq S (·.push (.ref s.heap.objs.size)) >>= fun _ => again (.builtin "list.extend.loop" ⟨[.ref S, .ref z, res], []⟩))
          (fun fin s' => match fin with | .done f => R (.ok f) s' | .again c' => c'.quiet = true ∧ codeAny (model prog w) A c' R s') (fun e s' => R (.error e) s') { s with heap := h1 } := fun h1 b T hT hz t1 t2 hp hs keep => by
      obtain ⟨c', h2, e3, L'⟩ := L.step P e1 e2 b T hT hz t1 t2 hp hs keep
      subst e3
      have hS1 : h1.get? S = some { cls := .type "list", dict := none, data := .seq acc c, slots := #[] } := keep S _ (Nat.ne_of_gt P.zS) (Nat.ne_of_gt P.oS) (Nat.ne_of_gt P.aS) (Nat.ne_of_gt P.bS) L.lst
      refine wpAny_bind (wpAny_updateSeq hS1 rfl (wpAny_pure ⟨plainId_quiet F.plain_extend_loop _, ih (i + 1) _ _ _ _ (by omega) L' fun h' acc' c' as' z => hR h' acc' c' as' z⟩) (by omega) (by show (acc.push _).size ≤ sizeLine + 1; rw [Array.size_push]; omega))
    refine codeAny_builtin F.entry_extend_loop ?_
    rw [Around.under_plainId F.plain_extend_loop _]
    show wpAny _ A.in1 (pyNext (.ref z) >>= _) _ _ s
    rcases L.zip with ⟨_, hz, a, b, hTO⟩ | ⟨T, b, hT, hz⟩
    · exact wpAny_bind (RZ.pyNext_zipT_item P.D hz L.ti hTO L.t1 L.t2 g1 g2 e1 e2 fun h' z1 _ t1 t2 hp hs hk => go h' false s.heap.objs.size (by simp) z1 t1 t2 hp hs hk)
    · obtain ⟨j, hj⟩ := List.mem_iff_getElem?.mp hT
      obtain ⟨_, _, _, _, e3⟩ := L.prs j T hj
      exact wpAny_bind (next_held_item P.D hz e3 L.ti L.t1 L.t2 g1 g2 e1 e2 fun h' z1 t1 t2 hp hs hk => go h' true T (List.mem_append_left _ hT) z1 t1 t2 hp hs fun c o c1 _ c3 c4 => hk c o c1 c3 c4)
end
end Mp

namespace Mp
open PySem L2
theorem zip_no_len : typeLookup (.type "zip") "__len__" = pure none := by rw [typeLookup_type, builtinLookup_eq_fast]; kernel_rfl
theorem zip_no_hint : typeLookup (.type "zip") "__length_hint__" = pure none := by rw [typeLookup_type, builtinLookup_eq_fast]; kernel_rfl
section
variable {prog : Program} {w : World} {A : Around} {h0 : Heap} {z TI TO i1 i2 l1 l2 S : Addr} {xs ys : Array Value} {s : Shared} {R : Result → Shared → Prop} {E : Value → Shared → Prop}
/-- a walk over two tuples that has not begun, its list still empty -/
structure ZB (h0 h : Heap) (z TI TO i1 i2 l1 l2 S : Addr) (c : Nat) : Prop where
  zip : IsZip h z TI TO .none
  to : ∃ a b, IsPair h TO a b
  ti : IsPair h TI (.ref i1) (.ref i2)
  t1 : h.IsTupleIter i1 l1 0
  t2 : h.IsTupleIter i2 l2 0
  lst : h.get? S = some { cls := .type "list", dict := none, data := .seq #[] c, slots := #[] }
  old : ∀ b o, h0.get? b = some o → h.get? b = some o
theorem ZB.upd {h h2 : Heap} {c c' : Nat} (P : ZA h0 z TI TO i1 i2 l1 l2 S) (B : ZB h0 h z TI TO i1 i2 l1 l2 S c) (oth : ∀ b o, b ≠ S → h.get? b = some o → h2.get? b = some o)
    (hS : h2.get? S = some { cls := .type "list", dict := none, data := .seq #[] c', slots := #[] }) : ZB h0 h2 z TI TO i1 i2 l1 l2 S c' := by
  obtain ⟨a, b, to⟩ := B.to
  exact ⟨oth z _ (Nat.ne_of_lt P.zS) B.zip, ⟨a, b, oth TO _ (Nat.ne_of_lt P.oS) to⟩, oth TI _ (Nat.ne_of_lt P.iS) B.ti, B.t1.at fun o e => oth i1 o (Nat.ne_of_lt P.aS) e, B.t2.at fun o e => oth i2 o (Nat.ne_of_lt P.bS) e, hS,
    fun b o e => oth b o (Nat.ne_of_lt (Nat.lt_of_lt_of_le (Heap.lt_size e) P.s0)) (B.old b o e)⟩
theorem ZB.start {h : Heap} {c : Nat} (B : ZB h0 h z TI TO i1 i2 l1 l2 S c) : ZL h0 h z TI TO i1 i2 l1 l2 S xs ys 0 #[] c [] where
  zip := .inl ⟨rfl, B.zip, B.to⟩
  ti := B.ti
  t1 := B.t1
  t2 := B.t2
  lst := B.lst
  acc := rfl
  len := rfl
  prs := fun j a e => by simp at e
  new := fun a ha => nomatch ha
  asc := .nil
  old := B.old
theorem zip_extend (hh : A.handled = none) (P : ZA h0 z TI TO i1 i2 l1 l2 S) (hl1 : h0.IsTuple l1 xs) (hl2 : h0.IsTuple l2 ys) (res : Value) {n c : Nat} (hn : n ≤ sizeLine) (hx : xs.size = n) (hy : ys.size = n) (B : ZB h0 s.heap z TI TO i1 i2 l1 l2 S c)
    (hR : ∀ (h' : Heap) acc' c' as', ZF h0 h' S xs ys n acc' c' as' → R (.ok (.ret res)) { s with heap := h' }) :
    wpAny (model prog w) A.in1 (Builtin.List.listExtendWith (.ref S) (.ref z) res)
      (fun fin s' => match fin with | .done f => R (.ok f) s' | .again c' => c'.quiet = true ∧ codeAny (model prog w) A c' R s') (fun e s' => R (.error e) s') s := by
  have hT : s.TypeIs (.ref z) "zip" := ⟨_, B.zip, rfl⟩
  have q1 : Builtin.List.listSameRef (.ref S) (.ref z) = false := by simp [Builtin.List.listSameRef, Nat.ne_of_gt P.zS]
  have q2 : (Value.type "zip" == Value.type "list") = false := by decide
  have q3 : (Value.type "zip" == Value.type "tuple") = false := by decide
  unfold Builtin.List.listExtendWith
  refine wpAny_bind (wpAny_typeOf hT ?_)
  simp only [q1, q2, q3, Bool.or_false, Bool.false_eq_true, if_false]
  refine wpAny_bind (wpAny_pyIter_zip B.zip ?_)
  refine wpAny_bind (wpAny_holding ?_)
  unfold Builtin.List.listLengthHint
  refine wpAny_bind (wpAny_specialOf hT zip_no_len ?_)
  refine wpAny_bind (m := specialOf (Value.ref z) (Str.ofString "__length_hint__")) (wpAny_specialOf hT zip_no_hint (wpAny_pure ?_))
  refine wpAny_bind (m := rule "list.extend.makes-room") (wpAny_rule (wpAny_bind (m := Builtin.List.listTouch (.ref S)) ?_))
  refine wpAny_bind (m := updateSeq S (·.push .none)) (wpAny_updateSeq B.lst rfl ?_)
  have hS2 := Heap.get?_update_self (Obj.mapSeq (·.push Value.none)) B.lst rfl
  show wpAny _ A.in1 (updateSeq S (·.pop)) _ _ _
  refine wpAny_updateSeq (hz := by seq_fits) hS2 rfl ?_
  have hS3 := Heap.get?_update_self (Obj.mapSeq (·.pop)) hS2 rfl
  refine wpAny_pure ⟨plainId_quiet F.plain_extend_loop _, zip_loop hh P hl1 hl2 res hn hx hy n 0 _ _ _ _ (Nat.zero_add _) (ZB.start (B.upd P (fun b o hb e => (Heap.get?_update_other _ _ (Ne.symm hb)).trans ((Heap.get?_update_other _ _ (Ne.symm hb)).trans e)) hS3)) fun h' acc' c' as' z => hR h' acc' c' as' z⟩
theorem zip_init (hh : A.handled = none) (P : ZA h0 z TI TO i1 i2 l1 l2 S) (hl1 : h0.IsTuple l1 xs) (hl2 : h0.IsTuple l2 ys) {n : Nat} (hn : n ≤ sizeLine) (hx : xs.size = n) (hy : ys.size = n) (B : ZB h0 s.heap z TI TO i1 i2 l1 l2 S 0)
    (hR : ∀ (h' : Heap) acc' c' as', ZF h0 h' S xs ys n acc' c' as' → R (.ok (.ret .none)) { s with heap := h' }) :
    wpAny (model prog w) A.in1 (Builtin.«list.__init__» ⟨[.ref S, .ref z], []⟩)
      (fun fin s' => match fin with | .done f => R (.ok f) s' | .again c' => c'.quiet = true ∧ codeAny (model prog w) A c' R s') (fun e s' => R (.error e) s') s := by
  show wpAny _ A.in1 (do let old ← Builtin.List.listItems (.ref S); Builtin.List.listUpdate (.ref S) (fun _ => #[]); letGo old.toList.reverse; Builtin.List.listExtendWith (.ref S) (.ref z) .none) _ _ s
  refine wpAny_bind ?_
  unfold Builtin.List.listItems
  refine wpAny_bind (wpAny_seqItems B.lst rfl (wpAny_pure ?_))
  refine wpAny_bind (m := updateSeq S (fun _ => #[])) (wpAny_updateSeq B.lst rfl ?_)
  have hS2 := Heap.get?_update_self (Obj.mapSeq (fun _ => (#[] : Array Value))) B.lst rfl
  refine wpAny_bind (wpAny_letGo ?_)
  exact zip_extend hh P hl1 hl2 .none hn hx hy (B.upd P (fun b o hb e => (Heap.get?_update_other _ _ (Ne.symm hb)).trans e) hS2) fun h' acc' c' as' z => hR h' acc' c' as' z
/-- list() over a zip that has not begun -/
theorem call_list_zip {Q : Value → Shared → Prop} (hh : A.handled = none) (P : ZA h0 z TI TO i1 i2 l1 l2 s.heap.objs.size) (hl1 : h0.IsTuple l1 xs) (hl2 : h0.IsTuple l2 ys) {n : Nat} (hn : n ≤ sizeLine) (hx : xs.size = n) (hy : ys.size = n)
    (b1 : IsZip s.heap z TI TO .none) (b2 : ∃ a b, IsPair s.heap TO a b) (b3 : IsPair s.heap TI (.ref i1) (.ref i2)) (b4 : s.heap.IsTupleIter i1 l1 0) (b5 : s.heap.IsTupleIter i2 l2 0) (b6 : ∀ b o, h0.get? b = some o → s.heap.get? b = some o)
    (hQ : ∀ (h' : Heap) acc' c' as', ZF h0 h' s.heap.objs.size xs ys n acc' c' as' → Q (.ref s.heap.objs.size) { s with heap := h' }) :
    wpAny (model prog w) A (call (.type "list") [.ref z]) Q E s := by
  refine callType_codes (Q₁ := fun obj s1 => obj = .ref s.heap.objs.size ∧ s1 = { s with heap := s.heap.push { cls := .type "list", data := .seq #[] } }) F.called_list (F.typeCall_list_1 _) F.entry_list_init
    (code_list_new _ ⟨rfl, rfl⟩) fun obj s1 h1 => ?_
  obtain ⟨rfl, rfl⟩ := h1
  have hS : (s.heap.push { cls := .type "list", data := .seq #[] }).get? s.heap.objs.size = some { cls := .type "list", data := .seq #[] } := Heap.get?_push_size _ rfl
  have up : ∀ b o, s.heap.get? b = some o → (s.heap.push { cls := .type "list", data := .seq #[] }).get? b = some o := fun b o e => Heap.get?_push_of_some _ e
  obtain ⟨a, b, to⟩ := b2
  refine ⟨⟨_, hS, rfl⟩, F.args_list_init_2 _ _, zip_init (h0 := h0) (by show A.in1.handled = none; exact hh) P hl1 hl2 hn hx hy ⟨up _ _ b1, ⟨a, b, up _ _ to⟩, up _ _ b3, b4.at fun o e => up _ o e, b5.at fun o e => up _ o e, hS, fun b o e => up b o (b6 b o e)⟩ fun h' acc' c' as' z => ?_⟩
  exact ⟨rfl, hQ h' acc' c' as' z⟩
end
end Mp

namespace Mp
open PySem L2
/-- pairs laid at addresses -/
def putP : Hp → List Addr → List (V × V) → Hp
  | H, [], _ => H
  | H, _ :: _, [] => H
  | H, a :: as, p :: ps => putP (upd H a (.tup [p.1, p.2])) as ps
theorem putP_off {b : Addr} : ∀ (as : List Addr) (ps : List (V × V)) (H : Hp), b ∉ as → putP H as ps b = H b
  | [], _, _, _ => rfl
  | _ :: _, [], _, _ => rfl
  | a :: as, p :: ps, H, h => by
    rw [putP, putP_off as ps _ fun z => h (List.mem_cons_of_mem _ z), upd_ne (fun z => h (by rw [z]; exact List.mem_cons_self ..))]
theorem putP_at : ∀ (as : List Addr) (ps : List (V × V)) (H : Hp) (j : Nat) (a : Addr) (p : V × V), as.Nodup → as[j]? = some a → ps[j]? = some p → putP H as ps a = some (.tup [p.1, p.2])
  | [], _, _, j, _, _, _, e, _ => by simp at e
  | _ :: _, [], _, j, _, _, _, _, e => by simp at e
  | b :: as, q :: ps, H, 0, a, p, nd, e1, e2 => by
    have e1 : b = a := Option.some.inj e1
    have e2 : q = p := Option.some.inj e2
    subst e1 e2
    rw [putP, putP_off as ps _ (List.nodup_cons.mp nd).1, upd_same]
  | b :: as, q :: ps, H, j + 1, a, p, nd, e1, e2 => by
    rw [putP]
    exact putP_at as ps _ j a p (List.nodup_cons.mp nd).2 (by simpa using e1) (by simpa using e2)
section
variable {X : Cx}
set_option maxHeartbeats 1000000 in
theorem zip_laid {pins : List (Addr × Obj)} {σ : L2.St} {H : Hp} {s : Shared} {h' : Heap} {tk : Nat} {us ws : List V} {its its2 : List Value} {acc : Array Value} {c n : Nat} {S : Addr} {as : List Addr} (I : Inv X pins σ H s) (v1 : Vals us its) (v2 : Vals ws its2)
    (Z : ZF s.heap h' S its.toArray its2.toArray n acc c as) (hS : s.heap.objs.size ≤ S) (hn : n ≤ sizeLine) :
    Inv X pins σ (upd (putP H as (us.zip ws)) S (.lst (as.map V.ref))) { s with heap := h', toks := tk } := by
  have nd : as.Nodup := List.Pairwise.imp (fun {a b} (h : a < b) => Nat.ne_of_lt h) Z.asc
  have hSn : S ∉ as := fun z => Nat.lt_irrefl _ (Z.new _ z)
  have new : ∀ t ∈ as, H t = none := fun t ht => I.hok.fresh (Nat.le_of_lt (Nat.lt_of_le_of_lt hS (Z.new t ht)))
  have newS : H S = none := I.hok.fresh hS
  have off : ∀ b, b ∉ as → b ≠ S → upd (putP H as (us.zip ws)) S (.lst (as.map V.ref)) b = H b := fun b h1 h2 => by rw [upd_ne h2, putP_off _ _ _ h1]
  have low : ∀ b o, s.heap.get? b = some o → b ∉ as ∧ b ≠ S := fun b o e => ⟨fun z => absurd (Heap.lt_size e) (Nat.not_lt.mpr (Nat.le_of_lt (Nat.lt_of_le_of_lt hS (Z.new b z)))), Nat.ne_of_lt (Nat.lt_of_lt_of_le (Heap.lt_size e) hS)⟩
  have kp : ∀ b u, H b = some u → upd (putP H as (us.zip ws)) S (.lst (as.map V.ref)) b = some u := fun b u e => by
    rw [off b (fun z => by rw [new b z] at e; cases e) (fun z => by rw [z, newS] at e; cases e)]
    exact e
  have pk : ∀ (j : Nat) (a : Addr), as[j]? = some a → ∃ x y u v, us[j]? = some x ∧ ws[j]? = some y ∧ its[j]? = some u ∧ its2[j]? = some v ∧ RelV x u ∧ RelV y v ∧ IsPair h' a u v := fun j a e => by
    obtain ⟨u, v, e1, e2, e3⟩ := Z.prs j a e
    have e1 : its[j]? = some u := by simpa using e1
    have e2 : its2[j]? = some v := by simpa using e2
    have l1 := v1.length
    have l2 := v2.length
    have h1 := (List.getElem?_eq_some_iff.mp e1).1
    have h2 := (List.getElem?_eq_some_iff.mp e2).1
    have g1 : us[j]? = some (us[j]'(by omega)) := List.getElem?_eq_getElem (by omega)
    have g2 : ws[j]? = some (ws[j]'(by omega)) := List.getElem?_eq_getElem (by omega)
    obtain ⟨u', a1, a2⟩ := v1.get g1
    obtain ⟨v', b1, b2⟩ := v2.get g2
    rw [e1] at a1
    rw [e2] at b1
    cases a1
    cases b1
    exact ⟨_, _, u, v, g1, g2, e1, e2, a2, b2, e3⟩
  refine I.call' (ch := []) rfl ⟨fun b o q _ _ _ => Z.old b o q, fun b o q _ _ _ => ⟨o.slots, Z.old b o q⟩, fun b o q n _ => ?_, fun b o q _ => ⟨o, Z.old b o q⟩, fun b xs q => kp b _ q, fun b o u q => kp b _ q, fun b ps q => ⟨#[], by rw [kp b _ q]; simp⟩⟩ (fun b u q => ?_) I.bare fun b z => by simp at z
  · obtain ⟨z1, z2⟩ := low b o q
    rw [off b z1 z2]
    exact n
  · by_cases hb2 : b = S
    · subst hb2
      rw [upd_same] at q
      cases q
      refine ⟨by rw [List.length_map, Z.len]; exact hn, acc.toList, c, by rw [Z.acc]; exact (LiI.vals_refs as), ?_⟩
      rw [Array.toArray_toList]
      exact Z.lst
    · by_cases hb : b ∈ as
      · obtain ⟨j, hj⟩ := List.mem_iff_getElem?.mp hb
        obtain ⟨x, y, u', v', g1, g2, _, _, r1, r2, hp⟩ := pk j b hj
        have ez : (us.zip ws)[j]? = some (x, y) := (List.getElem?_zip_eq_some (z := (x, y))).mpr ⟨g1, g2⟩
        rw [upd_ne hb2, putP_at as _ H j b (x, y) nd hj ez] at q
        cases q
        exact ⟨by show 2 ≤ sizeLine; decide, [u', v'], .cons r1 (.cons r2 .nil), ⟨_, hp, rfl, _, rfl⟩⟩
      · rw [off b hb hb2] at q
        exact (I.hok b u q).stay (fun d v _ y => Z.old d v y) (fun d y => kp d _ y) fun d xs y => kp d _ y
end
end Mp

namespace Mp
open PySem L2 PySem.Spec PyProof.Rows
def tLzip (K : PySem.W.Frag) (ta : TA) : TE := fun σ H Q => ta σ H fun vs H1 => ∃ a b us ws, vs = [.ref a, .ref b] ∧ SqT K H1 a us ∧ SqT K H1 b ws ∧ us.length = ws.length ∧ us.length ≤ sizeLine ∧
  ∀ (as : List Addr) (p : Addr), as.length = us.length → (∀ t ∈ as, H1 t = none) → as.Nodup → p ∉ as → H1 p = none → Q (.ref p) (upd (putP H1 as (us.zip ws)) p (.lst (as.map V.ref)))
section
variable {X : Cx}
set_option maxHeartbeats 1000000 in
theorem pe_lzip {e e2 : Expr} {ta : TA} {p p2 q pos : Pos} (hc : X.calm = true) (hg : Gl X "list") (hm : X.mg "list" = none) (hg2 : Gl X "zip") (hm2 : X.mg "zip" = none) (ha : PA X [e, e2] ta)
    (hs : starEach [e, e2] X.env = (false, eval e X.env) :: starEach [e2] X.env) (hpl : (backTo q (starEach [e2] X.env)).any (·.1) = false) :
    PE X (.Call (.Name "list" p) [.Call (.Name "zip" p2) [e, e2] [] q] [] pos) (tLzip X.K ta) := by
  refine ⟨fun pins s σ H Q I h => ?_⟩
  refine Call_ (ld_blt I hg hm PyProof.Rows.boot_list ?_)
  refine PyProof.Rows.callWith_type1 (PyProof.Rows.args_cons ?_ rfl) rfl rfl
  refine Call_ (ld_blt I hg2 hm2 PyProof.Rows.boot_zip (PyProof.Rows.callWith_type1 (thn (ha.run q pins s σ H _ I h) fun us s1 ⟨vs, H1, I1, r1, q1⟩ => ?_) hs hpl))
  obtain ⟨a, b, us', ws', rfl, ta, tb, hl, hn, q1⟩ := q1
  cases r1 with
  | cons ra rr =>
    cases rr with
    | cons rb rr =>
      cases rr
      cases ra
      cases rb
      obtain ⟨its, v1, p1, _⟩ := I1.tuple ta
      obtain ⟨its2, v2, p2', _⟩ := I1.tuple tb
      obtain ⟨o1, ho1, _⟩ := id p1
      obtain ⟨o2, ho2, _⟩ := id p2'
      have D := PySem.W.ktu_apart s1.heap.objs.size a b (Heap.lt_size ho1) (Heap.lt_size ho2)
      have g1 : s1.heap.IsTuple a its.toArray := p1
      have g2 : s1.heap.IsTuple b its2.toArray := p2'
      refine RZ.call_zipT g1 g2 fun h' hz hTI hTO t1 t2 hsz hk => PyProof.Rows.args_nil ?_
      have le : ∀ k : Nat, s1.heap.objs.size ≤ s1.heap.objs.size + k := fun k => Nat.le_add_right _ _
      have P : ZA s1.heap (s1.heap.objs.size + 4) (s1.heap.objs.size + 2) (s1.heap.objs.size + 3) s1.heap.objs.size (s1.heap.objs.size + 1) a b h'.objs.size := by
        rw [hsz]
        exact ⟨D, le 4, le 3, Nat.le_refl _, le 1, le 5, Nat.lt_succ_self _, Nat.lt_of_lt_of_le (Nat.lt_succ_self _) (Nat.add_le_add_left (by decide : 3 ≤ 5) _), Nat.lt_of_lt_of_le (Nat.lt_succ_self _) (Nat.add_le_add_left (by decide : 4 ≤ 5) _), Nat.lt_of_lt_of_le (Nat.lt_succ_self _) (Nat.add_le_add_left (by decide : 1 ≤ 5) _), Nat.lt_of_lt_of_le (Nat.lt_succ_self _) (Nat.add_le_add_left (by decide : 2 ≤ 5) _)⟩
      have hS : s1.heap.objs.size ≤ h'.objs.size := by rw [hsz]; exact le 5
      refine call_list_zip (s := { s1 with heap := h' }) (h0 := s1.heap) (I1.ok.hd hc) P g1 g2 (n := us'.length) hn (by rw [List.size_toArray, v1.length]) (by rw [List.size_toArray, ← v2.length, hl]) hz ⟨_, _, hTO⟩ hTI t1 t2 hk fun h2 acc c as Z => ?_
      have hSn : h'.objs.size ∉ as := fun z => Nat.lt_irrefl _ (Z.new _ z)
      have J := zip_laid (s := s1) (tk := s1.toks) I1 v1 v2 (S := h'.objs.size) Z hS hn
      exact ⟨.ref h'.objs.size, _, J, rfl, q1 as h'.objs.size Z.len (fun t ht => I1.hok.fresh (Nat.le_of_lt (Nat.lt_of_le_of_lt hS (Z.new t ht)))) (List.Pairwise.imp (fun {a b} (h : a < b) => Nat.ne_of_lt h) Z.asc) hSn (I1.hok.fresh hS)⟩
end
end Mp

namespace Mp
open PySem L2 PySem.Spec PyProof.Rows
theorem zip_rds {K : PySem.W.Frag} {H : Hp} : ∀ {u v : List D} {us ws : List V} {as : List Addr}, RDs K H u us → RDs K H v ws → u.length = v.length → as.length = us.length →
    (∀ (j : Nat) (a : Addr) (x y : V), as[j]? = some a → us[j]? = some x → ws[j]? = some y → H a = some (.tup [x, y])) → RDs K H ((u.zip v).map fun p => D.tup [p.1, p.2]) (as.map V.ref)
  | [], [], _, _, as, .nil, .nil, _, h, _ => by
    cases as with
    | nil => exact .nil
    | cons a as => cases h
  | [], _ :: _, _, _, _, _, _, h, _, _ => by cases h
  | _ :: _, [], _, _, _, _, _, h, _, _ => by cases h
  | d :: u, d2 :: v, _, _, as, .cons (v := x) a b, .cons (v := y) a' b', h, hl, at' => by
    cases as with
    | nil => cases hl
    | cons t as =>
      refine .cons (.tup (at' 0 t x y rfl rfl rfl) (.cons a (.cons a' .nil))) ?_
      exact zip_rds b b' (Nat.succ.inj h) (Nat.succ.inj hl) fun j a x y e1 e2 e3 => at' (j + 1) a x y (by simpa using e1) (by simpa using e2) (by simpa using e3)
section
variable {F : Str → Option Fn} {G : Str → Option Str} {L : List Str} {k : Nat} {X : Cx} {a b : Expr} {x y : E}
theorem se_lzip {p p2 q pos : Pos} (g : Good F G L k X) (hg : Gl X "list") (hg2 : Gl X "zip") (ha : PA X [a, b] (tEs X.K (W F G k) G [x, y])) (hne : ∀ u p, a ≠ .Starred u p) (hne2 : ∀ u p, b ≠ .Starred u p) :
    PE X (.Call (.Name "list" p) [.Call (.Name "zip" p2) [a, b] [] q] [] pos) (tE X.K (W F G k) G (.lzip x y)) := by
  refine PE.imp (pe_lzip g.calm hg (g.no (by decide +kernel)) hg2 (g.no (by decide +kernel)) ha (starEach_ne hne _ _) (by rw [starEach_ne hne2]; rfl)) fun τ H Q ⟨σ, S, Q', rs, r, w, kk⟩ => ?_
  simp only [wpE] at w
  refine ⟨σ, S, fun ds S1 => match ds with | [d, d2] => pZip d d2 S1 (fun u => u.length ≤ sizeLine ∧ pNew (.lst u) S1 Q') | _ => False, rs, r, by simpa only [wpEs] using w, fun ds S1 vs H1 hd f1 r1 q1 w1 => ?_⟩
  match ds, hd with
  | [], hd => cases hd
  | [_], hd => cases hd
  | _ :: _ :: _ :: _, hd => cases hd
  | [d1, d2], _ =>
    cases q1 with
    | cons qa qb => cases qb with
      | cons qb qc =>
        cases qc
        cases qa with
        | tup e q =>
          cases qb with
          | tup e' q' =>
            obtain ⟨hl, hz, hn⟩ := w1
            have l1 := q.length
            have l2 := q'.length
            rw [List.length_map, List.length_zip] at hz
            refine ⟨_, _, _, _, rfl, .of e, .of e', by omega, by omega, fun as p hal hnew nd hpn hp => ?_⟩
            rename_i u us _ v ws _
            have ext : ∀ b o, H1 b = some o → putP H1 as (us.zip ws) b = some o := fun b o z => by
              rw [putP_off _ _ _ (fun m => by rw [hnew b m] at z; cases z)]
              exact z
            have st : Stay H1 (putP H1 as (us.zip ws)) := ⟨fun _ _ z => ext _ _ z, fun _ _ _ z => ext _ _ z⟩
            have fr : Fr S1 H1 S1 (putP H1 as (us.zip ws)) := ⟨fun b o h z => ⟨h, ext b o z⟩, fun b kvs h => ⟨h, by
              obtain ⟨o, ls, z, _⟩ := r1 b _ h
              rw [ext b _ z, z]⟩⟩
            have r2 : RS X.K S1 (putP H1 as (us.zip ws)) := fun c o h => by
              have ro := r1 c o h
              refine ro.stay st ?_
              cases o with
              | lst _ => obtain ⟨_, z, _⟩ := ro; rw [ext c _ z, z]
              | dic _ => obtain ⟨_, z, _⟩ := ro; rw [ext c _ z, z]
              | lck _ => obtain ⟨_, _, z, _⟩ := ro; rw [ext c _ z, z]
            have qz := zip_rds (q.stay st) (q'.stay st) hl hal fun j c x y e1 e2 e3 => putP_at as _ H1 j c (x, y) nd e1 ((List.getElem?_zip_eq_some (z := (x, y))).mpr ⟨e2, e3⟩)
            exact ((kk.on f1).on fr).lst r2 qz hn p (by rw [putP_off _ _ _ hpn]; exact hp)
          | _ => exact w1.elim
        | _ => exact w1.elim
end
end Mp

namespace Mp
open PySem L2 PySem.Spec PyProof.Rows
/-! ## max(xs, default=d) -/
def rMaxKw (K : PySem.W.Frag) : List V → List V → Hp → VK → Prop := fun vs zs H Q => ∃ (a : Addr) (ns : List Int) (d : V), vs = [V.ref a] ∧ zs = [d] ∧ SqL K H a (ns.map V.int) ∧ (ns = [] → Q d H) ∧ ∀ m, m ∈ ns → (∀ y, y ∈ ns → y ≤ m) → Q (.int m) H
theorem reads_ints {h : Heap} : ∀ {us : List Value} {ns : List Int}, IntsAre us ns → ReadsAll h us (ns.map PyData.int) []
  | _, _, .nil => .nil
  | _, _, .cons _ _ r => .cons (.int _ _) (reads_ints r)
theorem depth_ints : ∀ ns : List Int, PyData.depthAll (ns.map PyData.int) = 0
  | [] => rfl
  | n :: ns => by rw [List.map_cons, PyData.depthAll, depth_ints ns]; rfl
theorem alike_ints (ns : List Int) : PySem.W.AlikeAll (ns.map PyData.int) := by
  refine ⟨fun x hx y hy => ?_, fun x hx e => ?_⟩
  · obtain ⟨i, _, rfl⟩ := List.mem_map.mp hx
    obtain ⟨j, _, rfl⟩ := List.mem_map.mp hy
    rfl
  · obtain ⟨i, _, rfl⟩ := List.mem_map.mp hx
    cases e
theorem foldl_maxZ : ∀ (ns : List Int) (n : Int), ns.foldl max n ∈ n :: ns ∧ ∀ y ∈ n :: ns, y ≤ ns.foldl max n
  | [], n => ⟨List.mem_cons_self .., fun y hy => by rw [List.mem_singleton.mp hy]; exact Int.le_refl _⟩
  | k :: ns, n => by
    obtain ⟨a, b⟩ := foldl_maxZ ns (max n k)
    rw [List.foldl_cons]
    have hm := b (max n k) (List.mem_cons_self ..)
    refine ⟨?_, fun y hy => ?_⟩
    · rcases List.mem_cons.mp a with e | m
      · rw [e]
        by_cases c : n ≤ k
        · rw [show max n k = k by omega]; exact List.mem_cons_of_mem _ (List.mem_cons_self ..)
        · rw [show max n k = n by omega]; exact List.mem_cons_self ..
      · exact List.mem_cons_of_mem _ (List.mem_cons_of_mem _ m)
    · rcases List.mem_cons.mp hy with rfl | hy
      · omega
      · rcases List.mem_cons.mp hy with rfl | hy
        · omega
        · exact b y (List.mem_cons_of_mem _ hy)
theorem cr_maxKw {X : Cx} (hc : X.calm = true) (hu : X.A.units + 65 < cLine) : CallRK X (.builtin "max") [Str.ofString "default"] (rMaxKw X.K) := by
  intro pins s σ H vs zs us ws Q I r rz h
  obtain ⟨a, ns, d, rfl, rfl, hs, q0, q⟩ := h
  obtain rfl := Vals.ref1 r
  obtain ⟨w1, rfl, e1⟩ := vals1 rz
  obtain ⟨its, rv, hl, hz⟩ := I.list hs
  refine PySem.W.max_list_default (I.ok.hd hc) hl.isList (reads_ints rv.ints) (alike_ints ns) (by rw [depth_ints]; omega) ?_ ?_
  · intro h0 h' tk hk
    exact ⟨d, H, I.kept hk, e1, q0 (List.map_eq_nil_iff.mp h0)⟩
  · intro y ys i v h' tk bs e hv hr hk
    cases ns with
    | nil => cases e
    | cons n ns =>
      rw [List.map_cons, List.cons.injEq] at e
      obtain ⟨rfl, rfl⟩ := e
      rw [PySem.W.maxD_ints] at hr
      cases hr
      obtain ⟨a1, a2⟩ := foldl_maxZ ns n
      exact ⟨.int _, H, I.kept hk, ⟨_, rfl⟩, q _ a1 a2⟩
section
variable {F : Str → Option Fn} {G : Str → Option Str} {L : List Str} {k : Nat} {X : Cx} {a b : Expr} {x y : E}
theorem se_mxd {p pos kp : Pos} (g : Good F G L k X) (hg : Gl X "max") (ha : PE X a (tE X.K (W F G k) G x)) (hb : PE X b (tE X.K (W F G k) G y)) (hne : ∀ u p, a ≠ .Starred u p) :
    PE X (.Call (.Name "max" p) [a] [⟨some "default", b, kp⟩] pos) (tE X.K (W F G k) G (.mxd true x y)) := by
  have s1 : backTo pos (starEach [a] X.env) = (false, eval a X.env) :: backTo pos (starEach [] X.env) := by rw [starEach_ne hne]; rfl
  refine PE.imp (pe_callBK (ks := [Str.ofString "default"]) (cr_maxKw g.calm g.un) hg (g.no (by decide +kernel)) rfl (pa_cons ha pa_nil (starEach_ne hne _ _)) (pk_cons hb pk_nil) (he := s1) (hpl := by rw [s1]; rfl)) fun τ H Q ⟨σ, S, Q', rs, r, w, kk⟩ => ?_
  simp only [wpE] at w
  refine tE.mk rs r w fun d S1 v H1 f1 r1 q1 w1 => tE.mk (rs.stay (f1.stay r)) r1 w1 fun d2 S2 u H2 f2 r2 q2 w2 => ?_
  obtain ⟨ad, us, ns, rfl, e, hi, h0, h1⟩ := w2
  have q1 := q1.stay (f2.stay r1)
  cases q1
  obtain ⟨vs, z, q⟩ := r2.lst e
  rw [q.intsOf hi] at z
  have k2 := kk.on (f1.trans f2)
  exact ⟨ad, ns, u, rfl, rfl, .of z, fun e0 => k2.at r2 q2 (h0 e0), fun m hm hy => k2.at r2 (.int _) (h1 m hm fun z hz => by rw [if_pos rfl]; exact hy z hz)⟩
end
end Mp

namespace Mp
open PySem L2 PySem.Spec PyProof.Rows

/-! ## list comprehensions -/
section
variable {K : PySem.W.Frag} {S S' : Sto} {H H' : Hp}
/-- a list outside the store is changed -/
theorem stay_lst {p : Addr} {vs : List V} (h : H p = some (.lst vs)) (o : HO) : Stay H (upd H p o) :=
  ⟨fun q ws z => by rw [upd_ne (fun c => by subst c; rw [h] at z; cases z)]; exact z, fun q ob ws z => by rw [upd_ne (fun c => by subst c; rw [h] at z; cases z)]; exact z⟩
theorem RS.side (r : RS K S H) {p : Addr} {vs : List V} (n : S p = none) (h : H p = some (.lst vs)) (o : HO) : RS K S (upd H p o) := fun a u e => by
  have ne : a ≠ p := fun c => by subst c; rw [n] at e; cases e
  exact (r a u e).stay (stay_lst h o) (upd_ne ne)
theorem wipe_at {τ : L2.St} {j : Nat} : ∀ (l : List Nat), j ∈ l → (wipe τ l)[j]? = some none ∨ (wipe τ l)[j]? = none
  | y :: l, h => by
    show ((wipe τ l).set y none)[j]? = some none ∨ ((wipe τ l).set y none)[j]? = none
    by_cases e : y = j
    · subst e
      by_cases hl : y < (wipe τ l).length
      · rw [List.getElem?_set_self hl]; exact .inl rfl
      · rw [List.getElem?_eq_none (by simp; omega)]; exact .inr rfl
    · rw [List.getElem?_set_ne e]
      exact wipe_at l ((List.mem_cons.mp h).resolve_left (fun z => e z.symm))
theorem wipe_idem {τ : L2.St} (l : List Nat) : ∀ (l' : List Nat), (∀ j ∈ l', j ∈ l) → wipe (wipe τ l) l' = wipe τ l
  | [], _ => rfl
  | j :: l', hs => by
    show (wipe (wipe τ l) l').set j none = wipe τ l
    rw [wipe_idem l l' fun x hx => hs x (List.mem_cons_of_mem _ hx)]
    apply List.ext_getElem?
    intro i
    by_cases e : j = i
    · subst e
      by_cases hl : j < (wipe τ l).length
      · rw [List.getElem?_set_self hl]
        rcases wipe_at (τ := τ) l (hs j (List.mem_cons_self ..)) with q | q
        · rw [q]
        · rw [List.getElem?_eq_getElem hl] at q; cases q
      · rw [List.getElem?_eq_none (by simp; omega), List.getElem?_eq_none (by omega)]
    · rw [List.getElem?_set_ne e]
theorem Pts.nil {X : Cx} {Wf : Callee} {G : Str → Option Str} : PTs X [] (tT X.K Wf G (.bl true)) := PTs.imp pts_nil fun τ H Q ⟨σ, S, Q', rs, r, w, k⟩ => by
  simp only [wpE] at w
  obtain ⟨b, e, w⟩ := w
  cases e
  exact k true S H .refl r w
/-- the reading of a comprehension -/
theorem lc_core {Wf : Callee} {G : Str → Option Str} {kk : Ik} {its : List E} {t : Tg} {c x : E} {own : List Nat} (ho : ∀ i ∈ t.slots, i ∈ own) {τ : L2.St} {H : Hp} {Q : VK} {σ : Sl} {S : Sto} {Q' : Post} (rs : RSl K H σ τ) (r : RS K S H) (k : Kp K S H Q' Q)
    (w : wpEs Wf G its σ S X0 fun xs S1 => pItK kk xs S1 fun items chk =>
      wpLC chk (fun x' S2 R => wpTg t x' (wipeD σ own) fun σ2 => wpE Wf G c σ2 S2 X0 fun d S3 => ∃ b, d = .bl b ∧ if b = true then wpE Wf G x σ2 S3 X0 (fun y S4 => R (some y) S4) else R none S3) items [] S1 fun row S5 => pNew (.lst row) S5 Q') :
    tLc (iM K Wf G kk its) (gOf K t) (tT K Wf G c) (tE K Wf G x) own τ H Q := by
  refine ⟨σ, S, _, rs, r, w, fun u chk S1 H1 J f1 r1 io w1 => fun Dp hD => ?_⟩
  have n1 : S1 Dp = none := r1.fresh hD
  -- what holds at turn i
  refine ⟨fun i m H2 => m = u.length - i ∧ i ≤ u.length ∧ ∃ (acc : List D) (av : List V) (S2 : Sto), Fr S1 H1 S2 H2 ∧ RS K S2 H2 ∧ S2 Dp = none ∧ H2 Dp = some (.lst av) ∧ RDs K H2 acc av ∧
    wpLC chk (fun x S2 R => wpTg t x (wipeD σ own) fun σ2 => wpE Wf G c σ2 S2 X0 fun d S3 => ∃ b, d = .bl b ∧ if b = true then wpE Wf G _ σ2 S3 X0 (fun y S4 => R (some y) S4) else R none S3) (u.drop i) acc S2 fun row S5 => pNew (.lst row) S5 Q',
    ⟨u.length, by simp, Nat.zero_le _, [], [], S1, Fr.out r1 hD _, r1.out hD _, n1, upd_same, .nil, by simpa using w1⟩, ?_⟩
  rintro i m H2 ⟨rfl, hi, acc, av, S2, f2, r2, n2, e2, q2, w2⟩
  by_cases hlt : i < u.length
  · rw [List.drop_eq_getElem_cons hlt] at w2
    unfold wpLC at w2
    obtain ⟨ck, w2⟩ := w2
    refine .inr ⟨io.go i S2 H2 hlt f2 r2 ck, fun H3 => (i + 1 ≤ u.length ∧ ∃ (acc : List D) (av : List V) (S2 : Sto), Fr S1 H1 S2 H3 ∧ RS K S2 H3 ∧ S2 Dp = none ∧ H3 Dp = some (.lst av) ∧ RDs K H3 acc av ∧
      wpLC chk (fun x S2 R => wpTg t x (wipeD σ own) fun σ2 => wpE Wf G c σ2 S2 X0 fun d S3 => ∃ b, d = .bl b ∧ if b = true then wpE Wf G _ σ2 S3 X0 (fun y S4 => R (some y) S4) else R none S3) (u.drop (i + 1)) acc S2 fun row S5 => pNew (.lst row) S5 Q'),
      fun H3 z => ⟨u.length - (i + 1), by omega, rfl, z.1, z.2⟩, fun xv H3 y => ?_⟩
    obtain ⟨rd, r3, f3⟩ := io.yld i u[i] S2 H2 xv H3 (List.getElem?_eq_getElem hlt) f2 r2 ck y
    have hD3 := f3.1 Dp _ n2 e2
    have stay1 : Stay H H3 := (f1.trans (f2.trans f3)).stay r
    refine gOf_ok rd ((rs.stay stay1).wipe own) w2 fun σ4 τ4 w4 rs4 hw => ⟨?_, σ4, S2, _, rs4, r3, w4, fun b S5 H5 f5 r5 w5 => ?_⟩
    · have z := hw own ho
      rw [z, wipe_idem own own fun _ h => h]
    · cases b with
      | false =>
        rw [if_neg Bool.false_ne_true] at w5 ⊢
        obtain ⟨n5, e5⟩ := f5.1 Dp _ hD3.1 hD3.2
        exact ⟨hlt, acc, av, S5, f2.trans (f3.trans f5), r5, n5, e5, q2.stay ((f3.trans f5).stay r2), w5⟩
      | true =>
        rw [if_pos rfl] at w5 ⊢
        refine tE.mk (rs4.stay (f5.stay r3)) r5 w5 fun y S6 yv H6 f6 r6 q6 w6 => ?_
        obtain ⟨n5, e5⟩ := f5.1 Dp _ hD3.1 hD3.2
        obtain ⟨n6, e6⟩ := f6.1 Dp _ n5 e5
        have st6 : Stay H2 H6 := (f3.trans (f5.trans f6)).stay r2
        have q2' := q2.stay st6
        refine ⟨av, e6, by rw [← q2.length]; exact w6.1, hlt, acc ++ [y], av ++ [yv], S6, ⟨fun p o hp hq => ?_, fun p kvs hp => ?_⟩, r6.side n6 e6 _, n6, upd_same, (q2'.append (.cons q6 .nil)).stay (stay_lst e6 _), w6.2⟩
        · have z := (f2.trans (f3.trans (f5.trans f6))).1 p o hp hq
          have ne : p ≠ Dp := fun c => by subst c; rw [hD] at hq; cases hq
          exact ⟨z.1, by rw [upd_ne ne]; exact z.2⟩
        · have z := (f2.trans (f3.trans (f5.trans f6))).2 p kvs hp
          have ne : p ≠ Dp := fun c => by subst c; rw [n1] at hp; cases hp
          exact ⟨z.1, by rw [upd_ne ne]; exact z.2⟩
  · have e : i = u.length := by omega
    subst e
    rw [List.drop_eq_nil_of_le (Nat.le_refl _)] at w2
    unfold wpLC at w2
    obtain ⟨ck, w2⟩ := w2
    refine .inl ⟨io.stop _ S2 H2 (Nat.le_refl _) f2 r2 ck, ?_⟩
    refine k (.ref Dp) (S2.put Dp (.lst acc)) _ _ ⟨fun p o hp hq => ?_, fun p kvs hp => ?_⟩ (fun a o e => ?_) (.ref Dp) (w2 Dp n2)
    · have z := (f1.trans f2).1 p o hp hq
      have hq1 := (f1.1 p o hp hq).2
      have ne : p ≠ Dp := fun c => by subst c; rw [hD] at hq1; cases hq1
      exact ⟨by rw [put_ne ne]; exact z.1, z.2⟩
    · have z := (f1.trans f2).2 p kvs hp
      have ne : p ≠ Dp := fun c => by subst c; have := (f1.2 p kvs hp).1; rw [n1] at this; cases this
      exact ⟨by rw [put_ne ne]; exact z.1, z.2⟩
    · by_cases ha : a = Dp
      · subst ha; rw [put_same] at e; cases e; exact ⟨av, e2, q2⟩
      · rw [put_ne ha] at e; exact r2 a o e
/-- a dict is locked while it is walked -/
theorem RS.lock (r : RS K S H) {a : Addr} {kvs : List (Key × D)} {ls : List (Key × V)} (e : S a = some (.dic kvs)) (z : H a = some (.dK ls)) (q : RKv K H kvs ls) (od : Obj) :
    RS K (S.put a (.lck kvs)) (upd H a (.frz od (.dK ls))) ∧ Stay H (upd H a (.frz od (.dK ls))) :=
  ⟨r.set e (show RO K _ a (.lck kvs) from ⟨od, ls, upd_same, RKv.stay (stay_set r e _) q⟩), stay_set r e _⟩
theorem stay_unlock {a : Addr} {od : Obj} {ls : List (Key × V)} (z : H a = some (.frz od (.dK ls))) (o : HO) : Stay H (upd H a o) :=
  ⟨fun p vs h => by rw [upd_ne (fun c => by subst c; rw [z] at h; cases h)]; exact h, fun p ob vs h => by rw [upd_ne (fun c => by subst c; rw [z] at h; cases h)]; exact h⟩
theorem RS.unlock (r : RS K S H) {a : Addr} {kvs : List (Key × D)} {od : Obj} {ls : List (Key × V)} (e : S a = some (.lck kvs)) (z : H a = some (.frz od (.dK ls))) : RS K (S.put a (.dic kvs)) (upd H a (.dK ls)) := by
  have q : RKv K H kvs ls := by
    obtain ⟨o', ls', z', q⟩ := r _ _ e
    rw [z] at z'; cases z'; exact q
  exact r.set e (show RO K _ a (.dic kvs) from ⟨ls, upd_same, RKv.stay (stay_set r e _) q⟩)
/-- locked, run, unlocked: the frame -/
theorem Fr.locked (r : RS K S H) {a : Addr} {kvs : List (Key × D)} {ls : List (Key × V)} {od : Obj} (e : S a = some (.dic kvs)) (z : H a = some (.dK ls)) {S1 : Sto} {H1 : Hp} (f : Fr (S.put a (.lck kvs)) (upd H a (.frz od (.dK ls))) S1 H1) : Fr S H (S1.put a (.dic kvs)) (upd H1 a (.dK ls)) := by
  refine ⟨fun b o h h' => ?_, fun b k2 h => ?_⟩
  · have ne : b ≠ a := fun c => by subst c; rw [e] at h; cases h
    have q := f.1 b o (by rw [put_ne ne]; exact h) (by rw [upd_ne ne]; exact h')
    exact ⟨by rw [put_ne ne]; exact q.1, by rw [upd_ne ne]; exact q.2⟩
  · have ne : b ≠ a := fun c => by subst c; rw [e] at h; cases h
    have q := f.2 b k2 (by rw [put_ne ne]; exact h)
    exact ⟨by rw [put_ne ne]; exact q.1, by rw [upd_ne ne, q.2, upd_ne ne]⟩
/-- what a name holds is walked, and locked where it is a dict -/
theorem lock_read {Wf : Callee} {G : Str → Option Str} {kk : Ik} {its : List E} {T : TE} {P : Sl → List D → Sto → Post → Prop} (hk : kk ≠ .nam ∨ ∃ i, its = [.v i]) {τ : L2.St} {H : Hp} {Q : VK}
    (core : ∀ {τ : L2.St} {H : Hp} {Q : VK} {σ : Sl} {S : Sto} {Q' : Post}, RSl K H σ τ → RS K S H → Kp K S H Q' Q → (wpEs Wf G its σ S X0 fun xs S1 => P σ xs S1 Q') → T τ H Q)
    {σ : Sl} {S : Sto} {Q' : Post} (rs : RSl K H σ τ) (r : RS K S H) (k : Kp K S H Q' Q) (w : wpEs Wf G its σ S X0 fun xs S0 => lockE kk xs S0 Q' fun S1 Q1 => P σ xs S1 Q1) : T τ H Q ∨ tLockE T τ H Q := by
  by_cases hn : kk = .nam
  · subst hn
    obtain ⟨i, rfl⟩ := hk.resolve_left (fun z => z rfl)
    simp only [wpEs, wpE] at w
    obtain ⟨d, hd, w⟩ := w
    have mk : ∀ {S2 : Sto} {Q2 : Post}, P σ [d] S2 Q2 → wpEs Wf G [.v i] σ S2 X0 fun xs S1 => P σ xs S1 Q2 := fun {S2 Q2} h => by simp only [wpEs, wpE]; exact ⟨d, hd, h⟩
    unfold lockE at w
    split at w
    · rename_i xs2 a _ e1
      simp only [List.cons.injEq, and_true] at e1
      subst e1
      split at w
      · rename_i kvs e
        obtain ⟨ls, z, q⟩ := r _ _ e
        refine .inr ⟨a, .dK ls, z, trivial, fun od => ?_⟩
        obtain ⟨r1, st1⟩ := r.lock e z q od
        refine core (rs.stay st1) r1 (fun d' S' v' H' f1 r2 q2 w2 => ?_) (mk w)
        have h1 := (f1.2 a kvs (by rw [put_same])).2
        rw [upd_same] at h1
        refine ⟨h1, k d' _ v' _ (f1.locked r e z) (r2.unlock w2.1 h1) (q2.stay (stay_unlock h1 _)) w2.2⟩
      · exact .inl (core rs r k (mk w))
    · exact .inl (core rs r k (mk w))
  · have z : ∀ xs S0 Q1 P', lockE kk xs S0 Q1 P' = P' S0 Q1 := fun xs S0 Q1 P' => by
      unfold lockE
      split
      · exact absurd rfl hn
      · rfl
    simp only [z] at w
    exact .inl (core rs r k w)
theorem lc_read {Wf : Callee} {G : Str → Option Str} {kk : Ik} {its : List E} {t : Tg} {c x : E} {own : List Nat} (ho : ∀ i ∈ t.slots, i ∈ own) (hk : kk ≠ .nam ∨ ∃ i, its = [.v i]) {τ : L2.St} {H : Hp} {Q : VK}
    (h : tE K Wf G (.lc own t kk its c x) τ H Q) : tLc (iM K Wf G kk its) (gOf K t) (tT K Wf G c) (tE K Wf G x) own τ H Q ∨ tLockE (tLc (iM K Wf G kk its) (gOf K t) (tT K Wf G c) (tE K Wf G x) own) τ H Q := by
  obtain ⟨σ, S, Q', rs, r, w, k⟩ := h
  simp only [wpE] at w
  exact lock_read (P := fun σ xs S1 Q1 => pItK kk xs S1 fun items chk => wpLC chk (fun x' S2 R => wpTg t x' (wipeD σ own) fun σ2 => wpE Wf G c σ2 S2 X0 fun d S3 => ∃ b, d = .bl b ∧ if b = true then wpE Wf G x σ2 S3 X0 (fun y S4 => R (some y) S4) else R none S3) items [] S1 fun row S5 => pNew (.lst row) S5 Q1)
    hk (fun rs r k w => lc_core ho rs r k w) rs r k w
theorem stay_dK {p : Addr} {vs : List (Key × V)} (h : H p = some (.dK vs)) (o : HO) : Stay H (upd H p o) :=
  ⟨fun q ws z => by rw [upd_ne (fun c => by subst c; rw [h] at z; cases z)]; exact z, fun q ob ws z => by rw [upd_ne (fun c => by subst c; rw [h] at z; cases z)]; exact z⟩
theorem RS.sideK (r : RS K S H) {p : Addr} {vs : List (Key × V)} (n : S p = none) (h : H p = some (.dK vs)) (o : HO) : RS K S (upd H p o) := fun a u e => by
  have ne : a ≠ p := fun c => by subst c; rw [n] at e; cases e
  exact (r a u e).stay (stay_dK h o) (upd_ne ne)
/-- .. of a dict comprehension -/
theorem dc_core {Wf : Callee} {G : Str → Option Str} {kk : Ik} {its : List E} {t : Tg} {c kx vx : E} {own : List Nat} (ho : ∀ i ∈ t.slots, i ∈ own) {τ : L2.St} {H : Hp} {Q : VK} {σ : Sl} {S : Sto} {Q' : Post} (rs : RSl K H σ τ) (r : RS K S H) (k : Kp K S H Q' Q)
    (w : wpEs Wf G its σ S X0 fun xs S1 => pItK kk xs S1 fun items chk =>
      wpDC chk (fun x' S2 R => wpTg t x' (wipeD σ own) fun σ2 => wpE Wf G c σ2 S2 X0 fun d S3 => ∃ b, d = .bl b ∧ if b = true then wpE Wf G kx σ2 S3 X0 (fun y S4 => wpE Wf G vx σ2 S4 X0 fun z S5 => R (some (y, z)) S5) else R none S3) items [] S1 fun row S5 => pNew (.dic row) S5 Q') :
    tDc (iM K Wf G kk its) (gOf K t) (tT K Wf G c) (tE K Wf G kx) (tE K Wf G vx) own τ H Q := by
  refine ⟨σ, S, _, rs, r, w, fun u chk S1 H1 J f1 r1 io w1 => fun Dp hD => ?_⟩
  have n1 : S1 Dp = none := r1.fresh hD
  -- what holds at turn i
  refine ⟨fun i m H2 => m = u.length - i ∧ i ≤ u.length ∧ ∃ (acc : List (Key × D)) (av : List (Key × V)) (S2 : Sto), Fr S1 H1 S2 H2 ∧ RS K S2 H2 ∧ S2 Dp = none ∧ H2 Dp = some (.dK av) ∧ RKv K H2 acc av ∧
    wpDC chk (fun x S2 R => wpTg t x (wipeD σ own) fun σ2 => wpE Wf G c σ2 S2 X0 fun d S3 => ∃ b, d = .bl b ∧ if b = true then wpE Wf G kx σ2 S3 X0 (fun y S4 => wpE Wf G vx σ2 S4 X0 fun z S5 => R (some (y, z)) S5) else R none S3) (u.drop i) acc S2 fun row S5 => pNew (.dic row) S5 Q',
    ⟨u.length, by simp, Nat.zero_le _, [], [], S1, Fr.out r1 hD _, r1.out hD _, n1, upd_same, .nil, by simpa using w1⟩, ?_⟩
  rintro i m H2 ⟨rfl, hi, acc, av, S2, f2, r2, n2, e2, q2, w2⟩
  by_cases hlt : i < u.length
  · rw [List.drop_eq_getElem_cons hlt] at w2
    unfold wpDC at w2
    obtain ⟨ck, w2⟩ := w2
    refine .inr ⟨io.go i S2 H2 hlt f2 r2 ck, fun H3 => (i + 1 ≤ u.length ∧ ∃ (acc : List (Key × D)) (av : List (Key × V)) (S2 : Sto), Fr S1 H1 S2 H3 ∧ RS K S2 H3 ∧ S2 Dp = none ∧ H3 Dp = some (.dK av) ∧ RKv K H3 acc av ∧
      wpDC chk (fun x S2 R => wpTg t x (wipeD σ own) fun σ2 => wpE Wf G c σ2 S2 X0 fun d S3 => ∃ b, d = .bl b ∧ if b = true then wpE Wf G kx σ2 S3 X0 (fun y S4 => wpE Wf G vx σ2 S4 X0 fun z S5 => R (some (y, z)) S5) else R none S3) (u.drop (i + 1)) acc S2 fun row S5 => pNew (.dic row) S5 Q'),
      fun H3 z => ⟨u.length - (i + 1), by omega, rfl, z.1, z.2⟩, fun xv H3 y => ?_⟩
    obtain ⟨rd, r3, f3⟩ := io.yld i u[i] S2 H2 xv H3 (List.getElem?_eq_getElem hlt) f2 r2 ck y
    have hD3 := f3.1 Dp _ n2 e2
    have stay1 : Stay H H3 := (f1.trans (f2.trans f3)).stay r
    refine gOf_ok rd ((rs.stay stay1).wipe own) w2 fun σ4 τ4 w4 rs4 hw => ⟨?_, σ4, S2, _, rs4, r3, w4, fun b S5 H5 f5 r5 w5 => ?_⟩
    · have z := hw own ho
      rw [z, wipe_idem own own fun _ h => h]
    · cases b with
      | false =>
        rw [if_neg Bool.false_ne_true] at w5 ⊢
        obtain ⟨n5, e5⟩ := f5.1 Dp _ hD3.1 hD3.2
        exact ⟨hlt, acc, av, S5, f2.trans (f3.trans f5), r5, n5, e5, RKv.stay ((f3.trans f5).stay r2) q2, w5⟩
      | true =>
        rw [if_pos rfl] at w5 ⊢
        refine tE.mk (rs4.stay (f5.stay r3)) r5 w5 fun y S6 yv H6 f6 r6 q6 w6 => tE.mk (rs4.stay ((f5.trans f6).stay r3)) r6 w6 fun zd S7 zv H7 f7 r7 q7 w7 => ?_
        obtain ⟨n5, e5⟩ := f5.1 Dp _ hD3.1 hD3.2
        obtain ⟨n6, e6⟩ := f6.1 Dp _ n5 e5
        obtain ⟨n7, e7⟩ := f7.1 Dp _ n6 e6
        have fr : Fr S2 H2 S7 H7 := f3.trans (f5.trans (f6.trans f7))
        have st7 : Stay H2 H7 := fr.stay r2
        have q2' := RKv.stay st7 q2
        obtain ⟨key, hkey, hlen, w7⟩ := w7
        have hy := kV_of hkey (q6.stay (f7.stay r6))
        have hy := kV_of hkey q6
        refine ⟨av, key, hy, e7, by rw [← Paired.length q2]; exact hlen, hlt, putD acc key zd, putK av key zv, S7, ⟨fun p o hp hq => ?_, fun p kvs hp => ?_⟩, r7.sideK n7 e7 _, n7, upd_same, RKv.stay (stay_dK e7 _) (q2'.put key q7), w7⟩
        · have z := (f2.trans fr).1 p o hp hq
          have ne : p ≠ Dp := fun c => by subst c; rw [hD] at hq; cases hq
          exact ⟨z.1, by rw [upd_ne ne]; exact z.2⟩
        · have z := (f2.trans fr).2 p kvs hp
          have ne : p ≠ Dp := fun c => by subst c; rw [n1] at hp; cases hp
          exact ⟨z.1, by rw [upd_ne ne]; exact z.2⟩
  · have e : i = u.length := by omega
    subst e
    rw [List.drop_eq_nil_of_le (Nat.le_refl _)] at w2
    unfold wpDC at w2
    obtain ⟨ck, w2⟩ := w2
    refine .inl ⟨io.stop _ S2 H2 (Nat.le_refl _) f2 r2 ck, ?_⟩
    refine k (.ref Dp) (S2.put Dp (.dic acc)) _ _ ⟨fun p o hp hq => ?_, fun p kvs hp => ?_⟩ (fun a o e => ?_) (.ref Dp) (w2 Dp n2)
    · have z := (f1.trans f2).1 p o hp hq
      have hq1 := (f1.1 p o hp hq).2
      have ne : p ≠ Dp := fun c => by subst c; rw [hD] at hq1; cases hq1
      exact ⟨by rw [put_ne ne]; exact z.1, z.2⟩
    · have z := (f1.trans f2).2 p kvs hp
      have ne : p ≠ Dp := fun c => by subst c; have := (f1.2 p kvs hp).1; rw [n1] at this; cases this
      exact ⟨by rw [put_ne ne]; exact z.1, z.2⟩
    · by_cases ha : a = Dp
      · subst ha; rw [put_same] at e; cases e; exact ⟨av, e2, q2⟩
      · rw [put_ne ha] at e; exact r2 a o e
theorem dc_read {Wf : Callee} {G : Str → Option Str} {kk : Ik} {its : List E} {t : Tg} {c kx x : E} {own : List Nat} (ho : ∀ i ∈ t.slots, i ∈ own) (hk : kk ≠ .nam ∨ ∃ i, its = [.v i]) {τ : L2.St} {H : Hp} {Q : VK}
    (h : tE K Wf G (.dc own t kk its c kx x) τ H Q) : tDc (iM K Wf G kk its) (gOf K t) (tT K Wf G c) (tE K Wf G kx) (tE K Wf G x) own τ H Q ∨ tLockE (tDc (iM K Wf G kk its) (gOf K t) (tT K Wf G c) (tE K Wf G kx) (tE K Wf G x) own) τ H Q := by
  obtain ⟨σ, S, Q', rs, r, w, k⟩ := h
  simp only [wpE] at w
  exact lock_read (P := fun σ xs S1 Q1 => pItK kk xs S1 fun items chk => wpDC chk (fun x' S2 R => wpTg t x' (wipeD σ own) fun σ2 => wpE Wf G c σ2 S2 X0 fun d S3 => ∃ b, d = .bl b ∧ if b = true then wpE Wf G kx σ2 S3 X0 (fun y S4 => wpE Wf G x σ2 S4 X0 fun z S5 => R (some (y, z)) S5) else R none S3) items [] S1 fun row S5 => pNew (.dic row) S5 Q1)
    hk (fun rs r k w => dc_core ho rs r k w) rs r k w
end
end Mp

namespace Mp
open PySem L2 PySem.Spec PyProof.Rows

/-! ## what is translated means what the language says: expressions -/
structure SndE (F : Str → Option Fn) (G : Str → Option Str) (L : List Str) (k : Nat) (N : List Str) (n : Nat) : Prop where
  E : ∀ {X : Cx} {sc : Scope} {e : Expr} {m : E}, Good F G L k X → X.N = N → X.env.scope = sc → trE N L n sc e = some m → PE X e (tE X.K (W F G k) G m)
  V : ∀ {X : Cx} {sc : Scope} {o : BoolOp} {es : List Expr} {m : Mp.E} {pos : Pos}, Good F G L k X → X.N = N → X.env.scope = sc → trV N L n sc o es = some m → PE X (.BoolOp o es pos) (tE X.K (W F G k) G m)
  T : ∀ {X : Cx} {sc : Scope} {e : Expr} {m : Mp.E}, Good F G L k X → X.N = N → X.env.scope = sc → trT N L n sc e = some m → PT X e (tT X.K (W F G k) G m)
  B : ∀ {X : Cx} {sc : Scope} {o : BoolOp} {es : List Expr} {m : Mp.E} {pos : Pos}, Good F G L k X → X.N = N → X.env.scope = sc → trW N L n sc o es = some m → PW X (.BoolOp o es pos) (tT X.K (W F G k) G m)
  Es : ∀ {X : Cx} {sc : Scope} {es : List Expr} {l : List Mp.E}, Good F G L k X → X.N = N → X.env.scope = sc → trEs N L n sc es = some l → PA X es (tEs X.K (W F G k) G l) ∧ l.length = es.length ∧ ∀ e ∈ es, ∀ u p, e ≠ .Starred u p
  O : ∀ {X : Cx} {sc : Scope} {o : Option Expr} {l : List Mp.E}, Good F G L k X → X.N = N → X.env.scope = sc → trO N L n sc o = some l → PO X o (tO X.K (W F G k) G l)
  C : ∀ {X : Cx} {sc : Scope} {ifs : List Expr} {c : Mp.E}, Good F G L k X → X.N = N → X.env.scope = sc → trC N L n sc ifs = some c → PTs X ifs (tT X.K (W F G k) G c)
  I : ∀ {X : Cx} {sc : Scope} {e tg : Expr} {kk : Ik} {l : List Mp.E}, Good F G L k X → X.N = N → X.env.scope = sc → zipOk kk tg = true → trI N L n sc e = some (kk, l) → PI X tg e (iM X.K (W F G k) G kk l) ∧ (kk ≠ .nam ∨ ∃ i, l = [.v i])
  P : ∀ {X : Cx} {sc : Scope} {pos : Pos} {ks : List (Option Expr)} {vs : List Expr} {l : List Mp.E}, Good F G L k X → X.N = N → X.env.scope = sc → trP N L n sc ks vs = some l → ∃ prs : List (Mp.E × Mp.E), l = prs.flatMap (fun p => [p.1, p.2]) ∧ PPs X pos ks vs (prs.map fun p => (tE X.K (W F G k) G p.1, tE X.K (W F G k) G p.2)) ∧ prs.length = ks.length
  nostar : ∀ {sc : Scope} {e : Expr} {m : Mp.E}, trE N L n sc e = some m → ∀ u p, e ≠ .Starred u p
section
variable {F : Str → Option Fn} {G : Str → Option Str} {L : List Str} {k : Nat} {N : List Str} {n : Nat}
theorem map_some {α β : Type} {o : Option α} {f : α → β} {y : β} (h : o.map f = some y) : ∃ x, o = some x ∧ y = f x := by
  cases o with
  | none => cases h
  | some x => exact ⟨x, rfl, (Option.some.inj h).symm⟩
theorem mt_of {x : Str} {m : Mt} (h : mtOf x = some m) : x = m.nm ∧ m ≠ .get := by
  have z := List.find?_some (p := fun b : Mt => decide (x = b.nm)) h
  refine ⟨of_decide_eq_true z, fun e => ?_⟩
  subst e
  have := List.mem_of_find?_eq_some h
  exact absurd this (by decide)
theorem bt_of {x : Str} {b : Bt} (h : btOf x = some b) : x = b.nm := by
  have z := List.find?_some (p := fun b : Bt => decide (x = b.nm)) h
  exact of_decide_eq_true z
theorem snd0 : SndE F G L k N 0 where
  E := fun _ _ _ h => by unfold trE at h; cases h
  V := fun _ _ _ h => by unfold trV at h; cases h
  T := fun _ _ _ h => by unfold trT at h; cases h
  B := fun _ _ _ h => by unfold trW at h; cases h
  Es := fun _ _ _ h => by unfold trEs at h; cases h
  O := fun _ _ _ h => by unfold trO at h; cases h
  C := fun _ _ _ h => by unfold trC at h; cases h
  I := fun _ _ _ _ h => by unfold trI at h; cases h
  P := fun _ _ _ h => by unfold trP at h; cases h
  nostar := fun h => by unfold trE at h; cases h
theorem snd_V (ih : SndE F G L k N n) {X : Cx} {sc : Scope} {o : BoolOp} {es : List Expr} {m : E} {pos : Pos} (g : Good F G L k X) (hN : X.N = N) (hs : X.env.scope = sc) (h : trV N L (n + 1) sc o es = some m) : PE X (.BoolOp o es pos) (tE X.K (W F G k) G m) := by
  unfold trV at h
  split at h
  · cases h
  · exact se_one (ih.E g hN hs h)
  · rename_i a r hr
    split at h
    · rename_i x y h1 h2
      cases r with
      | nil => exact (hr rfl).elim
      | cons b r =>
        cases o with
        | And => cases h; exact se_and (ih.E g hN hs h1) (ih.V g hN hs h2)
        | Or => cases h; exact se_or (ih.E g hN hs h1) (ih.V g hN hs h2)
    · cases h
theorem snd_B (ih : SndE F G L k N n) {X : Cx} {sc : Scope} {o : BoolOp} {es : List Expr} {m : E} {pos : Pos} (g : Good F G L k X) (hN : X.N = N) (hs : X.env.scope = sc) (h : trW N L (n + 1) sc o es = some m) : PW X (.BoolOp o es pos) (tT X.K (W F G k) G m) := by
  unfold trW at h
  split at h
  · cases h
  · cases o with
    | And => exact sw_and1 (ih.T g hN hs h)
    | Or => exact sw_or1 (ih.T g hN hs h)
  · rename_i a r hr
    split at h
    · rename_i x y h1 h2
      cases r with
      | nil => exact (hr rfl).elim
      | cons b r =>
        cases o with
        | And => cases h; exact sw_and (ih.T g hN hs h1) (ih.B g hN hs h2)
        | Or => cases h; exact sw_or (ih.T g hN hs h1) (ih.B g hN hs h2)
    · cases h
theorem snd_Es (ih : SndE F G L k N n) {X : Cx} {sc : Scope} {es : List Expr} {l : List E} (g : Good F G L k X) (hN : X.N = N) (hs : X.env.scope = sc) (h : trEs N L (n + 1) sc es = some l) :
    PA X es (tEs X.K (W F G k) G l) ∧ l.length = es.length ∧ ∀ e ∈ es, ∀ u p, e ≠ .Starred u p := by
  unfold trEs at h
  split at h
  · cases h; exact ⟨sa_nil, rfl, fun _ z => nomatch z⟩
  · cases h
  · rename_i e r hst
    split at h
    · rename_i x l' h1 h2
      cases h
      obtain ⟨a, b, c⟩ := ih.Es g hN hs h2
      have hne : ∀ u p, e ≠ .Starred u p := fun u p z => hst u p z
      refine ⟨sa_cons hne (ih.E g hN hs h1) a, congrArg (· + 1) b, fun y hy => ?_⟩
      rcases List.mem_cons.mp hy with rfl | hy
      · exact hne
      · exact c y hy
    · cases h
theorem snd_T (ih : SndE F G L k N n) {X : Cx} {sc : Scope} {e : Expr} {m : E} (g : Good F G L k X) (hN : X.N = N) (hs : X.env.scope = sc) (h : trT N L (n + 1) sc e = some m) (ihC : ∀ {a : Expr} {ops : List CmpOp} {bs : List Expr} {p : Pos} {m : E}, trE N L n sc (.Compare a ops bs p) = some m → PT X (.Compare a ops bs p) (tT X.K (W F G k) G m)) :
    PT X e (tT X.K (W F G k) G m) := by
  unfold trT at h
  split at h
  · exact (ih.B g hN hs h).pt
  · obtain ⟨x, h1, rfl⟩ := map_some h
    exact st_not (ih.T g hN hs h1)
  · cases h
  · split at h
    · exact ihC h
    · exact ihC h
    · cases h
  · rename_i n1 n2 n3 n4
    obtain ⟨x, h1, rfl⟩ := map_some h
    refine st_tru (fun whole => ?_) (ih.E g hN hs h1)
    cases e <;> first
      | rfl
      | exact (n1 _ _ _ rfl).elim
      | exact (n3 _ _ _ _ rfl).elim
      | exact (n4 _ _ _ _ rfl).elim
      | (rename_i op a p; cases op <;> first | rfl | exact (n2 _ _ rfl).elim)
theorem snd_I (ih : SndE F G L k N n) {X : Cx} {sc : Scope} {e tg : Expr} {kk : Ik} {l : List E} (g : Good F G L k X) (hN : X.N = N) (hs : X.env.scope = sc) (hz : zipOk kk tg = true) (h : trI N L (n + 1) sc e = some (kk, l)) : PI X tg e (iM X.K (W F G k) G kk l) ∧ (kk ≠ .nam ∨ ∃ i, l = [.v i]) := by
  have gl : ∀ {x : Str}, isGl sc x = true → Gl X x := fun {x} z => by
    have z := of_decide_eq_true z
    unfold Gl PySem.Env.kindOf
    rw [hs]; exact z
  have val : ∀ {e : Expr}, (trE N L n sc e).map (fun x => (Ik.val, [x])) = some (kk, l) → PI X tg e (iM X.K (W F G k) G kk l) ∧ (kk ≠ .nam ∨ ∃ i, l = [.v i]) := fun {e} h => by
    obtain ⟨x, h1, h2⟩ := map_some h
    cases h2
    exact ⟨si_val (ih.E g hN hs h1), .inl (by decide)⟩
  unfold trI at h
  split at h
  · split at h
    · rename_i f _ a _ e
      subst e
      split at h
      · rename_i hg
        obtain ⟨x, h1, h2⟩ := map_some h
        cases h2
        obtain ⟨p1, p2, p3⟩ := ih.Es g hN hs h1
        exact ⟨si_rng1 g (gl hg) p1 p2 (p3 a (List.mem_cons_self ..)), .inl (by decide)⟩
      · cases h
    · exact val h
  · split at h
    · rename_i f _ a b _ e
      subst e
      split at h
      · rename_i hg
        obtain ⟨x, h1, h2⟩ := map_some h
        cases h2
        obtain ⟨p1, p2, p3⟩ := ih.Es g hN hs h1
        exact ⟨si_rng2 g (gl hg) p1 p2 (p3 a (List.mem_cons_self ..)) (p3 b (List.mem_cons_of_mem _ (List.mem_cons_self ..))), .inl (by decide)⟩
      · cases h
    · split at h
      · rename_i f _ a b _ _ e
        subst e
        split at h
        · rename_i hg
          obtain ⟨x, h1, h2⟩ := map_some h
          cases h2
          obtain ⟨p1, p2, p3⟩ := ih.Es g hN hs h1
          cases tg <;> first
            | exact ⟨si_zip g (gl hg) p1 p2 (p3 a (List.mem_cons_self ..)) (p3 b (List.mem_cons_of_mem _ (List.mem_cons_self ..))), .inl (by decide)⟩
            | cases hz
        · cases h
      · exact val h
  · cases h
  · split at h
    · rename_i hi
      obtain ⟨x, h1, h2⟩ := map_some h
      cases h2
      obtain ⟨v1, v2, v3, v4⟩ := vis_of hi
      exact ⟨si_nam (by rw [hN]; exact v2) (by rw [hs]; exact v1) v3 v4, .inr ⟨_, rfl⟩⟩
    · cases h
  · exact val h
theorem snd_P (ih : SndE F G L k N n) {X : Cx} {sc : Scope} {pos : Pos} {ks : List (Option Expr)} {vs : List Expr} {l : List E} (g : Good F G L k X) (hN : X.N = N) (hs : X.env.scope = sc) (h : trP N L (n + 1) sc ks vs = some l) :
    ∃ prs : List (E × E), l = prs.flatMap (fun p => [p.1, p.2]) ∧ PPs X pos ks vs (prs.map fun p => (tE X.K (W F G k) G p.1, tE X.K (W F G k) G p.2)) ∧ prs.length = ks.length := by
  unfold trP at h
  split at h
  · cases h; exact ⟨[], rfl, pps_nil, rfl⟩
  · split at h
    · rename_i x y l' h1 h2 h3
      cases h
      obtain ⟨prs, rfl, hp, hl⟩ := ih.P (pos := pos) g hN hs h3
      exact ⟨(x, y) :: prs, rfl, pps_cons (ih.E g hN hs h1) (ih.E g hN hs h2) hp, congrArg (· + 1) hl⟩
    · cases h
  · cases h
theorem tr_noset {sc : Scope} {e : Expr} {kl : Ik × List E} (h : trI N L n sc e = some kl) (env : PySem.Env) : ∀ x, foldedSetIterable e env x = pure x := by
  cases n with
  | zero => unfold trI at h; cases h
  | succ n =>
    intro x
    unfold trI at h
    cases e <;> first | rfl | cases h
end
end Mp

namespace Mp
open PySem L2 PySem.Spec PyProof.Rows
section
variable {F : Str → Option Fn} {G : Str → Option Str} {L : List Str} {k : Nat} {N : List Str} {n : Nat}
/-- keys and values in turn, and pairs -/
inductive RPs (K : PySem.W.Frag) (H : Hp) : List D → List (V × V) → Prop
  | nil : RPs K H [] []
  | cons {k v : D} {x y : V} {ds : List D} {ps : List (V × V)} : RD K H k x → RD K H v y → RPs K H ds ps → RPs K H (k :: v :: ds) ((x, y) :: ps)
theorem RPs.kv {K : PySem.W.Frag} {H : Hp} : ∀ {ds : List D} {ps : List (V × V)} {kd : List (Key × D)}, RPs K H ds ps → pairsOf ds = some kd → ∃ kvs : List (Key × V), ps = kvs.map (fun kv => (kV kv.1, kv.2)) ∧ RKv K H kd kvs
  | _, _, _, .nil, e => by cases e; exact ⟨[], rfl, .nil⟩
  | _, _, _, .cons (k := k) (ds := ds) a b c, e => by
    unfold pairsOf at e
    split at e
    · rename_i key pr h1 h2
      cases e
      obtain ⟨kvs, rfl, q⟩ := RPs.kv c h2
      have := kV_of h1 a
      subst this
      exact ⟨(key, _) :: kvs, rfl, .cons ⟨rfl, b⟩ q⟩
    · cases e
theorem pairs_ok {K : PySem.W.Frag} {Wf : Callee} {G : Str → Option Str} {σ : Sl} {τ : L2.St} : ∀ {prs : List (E × E)} {S : Sto} {H : Hp} {Q1 : List D → Sto → Prop} {Q : List (V × V) → Hp → Prop}, RSl K H σ τ → RS K S H → wpEs Wf G (prs.flatMap fun p => [p.1, p.2]) σ S X0 Q1 →
    (∀ ds S1 ps H1, Fr S H S1 H1 → RS K S1 H1 → RPs K H1 ds ps → Q1 ds S1 → Q ps H1) → tPairs (prs.map fun p => (tE K Wf G p.1, tE K Wf G p.2)) τ H Q
  | [], S, H, Q1, Q, rs, r, w, kk => kk _ _ _ _ .refl r .nil (by simpa only [List.flatMap_nil, wpEs] using w)
  | (x, y) :: prs, S, H, Q1, Q, rs, r, w, kk => by
    simp only [List.flatMap_cons, List.cons_append, List.nil_append, wpEs] at w
    refine tE.mk rs r w fun d S1 v H1 f1 r1 q1 w1 => tE.mk (rs.stay (f1.stay r)) r1 w1 fun d2 S2 u H2 f2 r2 q2 w2 => ?_
    exact pairs_ok (prs := prs) (rs.stay ((f1.trans f2).stay r)) r2 w2 fun ds S3 ps H3 f3 r3 q3 w3 => kk _ S3 _ H3 ((f1.trans f2).trans f3) r3 (.cons (q1.stay ((f2.trans f3).stay r1)) (q2.stay (f3.stay r2)) q3) w3
theorem se_dlit {X : Cx} {Wf : Callee} {G : Str → Option Str} {ks : List (Option Expr)} {vs : List Expr} {prs : List (E × E)} {pos : Pos} (h : PPs X pos ks vs (prs.map fun p => (tE X.K Wf G p.1, tE X.K Wf G p.2))) (hall : ks.all (·.isSome) = true) (hl : ks.length = vs.length) (h0 : ks ≠ []) (h15 : ks.length ≤ 15) :
    PE X (.Dict ks vs pos) (tE X.K Wf G (.dlit (prs.flatMap fun p => [p.1, p.2]))) :=
  PE.imp (pe_disp h hall hl h0 h15) fun τ H Q ⟨σ, S, Q', rs, r, w, kk⟩ => by
    simp only [wpE] at w
    intro p hp
    have n0 := r.fresh hp
    refine pairs_ok (rs.stay (stay_new hp _)) (r.out hp _) w fun ds S1 ps H1 f1 r1 q1 w1 => ?_
    obtain ⟨kd, hk, h15', w1⟩ := w1
    obtain ⟨kvs, rfl, q⟩ := q1.kv hk
    obtain ⟨n1, e1⟩ := f1.1 p _ n0 upd_same
    refine ⟨e1, kvs, rfl, by rw [← Paired.length q]; exact h15', ?_⟩
    have st := stay_dK e1 (.dK (mergeK [] kvs))
    refine kk (.ref p) (S1.put p (.dic (mergeD [] kd))) _ _ ⟨fun b o hb hq => ?_, fun b kvs hb => ?_⟩ (fun a o e => ?_) (.ref p) (w1 p n1)
    · have ne : b ≠ p := ne_of_none hq hp
      have z := f1.1 b o hb (by rw [upd_ne ne]; exact hq)
      exact ⟨by rw [put_ne ne]; exact z.1, by rw [upd_ne ne]; exact z.2⟩
    · have ne : b ≠ p := fun c => by subst c; rw [n0] at hb; cases hb
      have z := f1.2 b kvs hb
      exact ⟨by rw [put_ne ne]; exact z.1, by rw [upd_ne ne, z.2, upd_ne ne]⟩
    · by_cases ha : a = p
      · subst ha; rw [put_same] at e; cases e; exact ⟨_, upd_same, RKv.stay st (RKv.merge q .nil)⟩
      · rw [put_ne ha] at e; exact (r1 a o e).stay st (upd_ne ha)
theorem lm2 {o p : CmpOp} {b c : Expr} (h : behindInMarks p c = false) : lastMarks [o, p] [b, c] = false := h
/-- a comparison as a test -/
theorem snd_cmp (ih : SndE F G L k N n) {X : Cx} {sc : Scope} {a : Expr} {ops : List CmpOp} {bs : List Expr} {p : Pos} {m : E} (g : Good F G L k X) (hN : X.N = N) (hs : X.env.scope = sc) (h : trE N L (n + 1) sc (.Compare a ops bs p) = some m) :
    PT X (.Compare a ops bs p) (tT X.K (W F G k) G m) ∧ PE X (.Compare a ops bs p) (tE X.K (W F G k) G m) := by
  match ops, bs, h with
  | [], _, h => unfold trE at h; cases h
  | [o], [], h => unfold trE at h; cases h
  | [o], _ :: _ :: _, h => unfold trE at h; cases h
  | [o, q], [], h => unfold trE at h; cases h
  | [o, q], [_], h => unfold trE at h; cases h
  | [o, q], _ :: _ :: _ :: _, h => unfold trE at h; cases h
  | _ :: _ :: _ :: _, _, h => unfold trE at h; cases h
  | [o], [b], h =>
    unfold trE at h
    simp only at h
    split at h
    · rename_i x y h1 h2 h3
      cases h
      exact ⟨st_cmp g.un h1 (ih.E g hN hs h2) (ih.E g hN hs h3), se_cmp g.un h1 (ih.E g hN hs h2) (ih.E g hN hs h3)⟩
    · cases h
  | [o, q], [b, c], h =>
    unfold trE at h
    simp only at h
    split at h
    · rename_i x y z h1 h2 h3 h4
      cases h
      exact ⟨st_cmp2 g.un (lm2 h1) (ih.E g hN hs h2) (ih.E g hN hs h3) (ih.E g hN hs h4), se_cmp2 g.un (lm2 h1) (ih.E g hN hs h2) (ih.E g hN hs h3) (ih.E g hN hs h4)⟩
    · cases h
theorem snd_O (ih : SndE F G L k N n) {X : Cx} {sc : Scope} {o : Option Expr} {l : List E} (g : Good F G L k X) (hN : X.N = N) (hs : X.env.scope = sc) (h : trO N L (n + 1) sc o = some l) : PO X o (tO X.K (W F G k) G l) := by
  unfold trO at h
  cases o with
  | none => cases h; exact so_none
  | some e => obtain ⟨x, h1, rfl⟩ := map_some h; exact so_some (ih.E g hN hs h1)
theorem snd_C (ih : SndE F G L k N n) {X : Cx} {sc : Scope} {ifs : List Expr} {c : E} (g : Good F G L k X) (hN : X.N = N) (hs : X.env.scope = sc) (h : trC N L (n + 1) sc ifs = some c) : PTs X ifs (tT X.K (W F G k) G c) := by
  unfold trC at h
  split at h
  · cases h; exact Pts.nil
  · exact pts_one (ih.T g hN hs h)
  · cases h
theorem gl_at {X : Cx} {sc : Scope} (hs : X.env.scope = sc) {x : Str} (h : sc.names.lookup x = some .globalImplicit) : Gl X x := by
  unfold Gl PySem.Env.kindOf; rw [hs]; exact h
/-- a list comprehension, its parts -/
theorem snd_lc (ih : SndE F G L k N n) {X : Cx} {sc : Scope} {elt tg it : Expr} {ifs : List Expr} {scope : Scope} {pos : Pos} {m : E} (g : Good F G L k X) (hN : X.N = N) (hs : X.env.scope = sc)
    (h : trE N L (n + 1) sc (.ListComp elt [⟨tg, it, ifs, 0⟩] scope pos) = some m) : ∃ (own : List (Str × Nat)) (t : Tg) (kk : Ik) (l : List E) (c x : E), m = .lc (own.map (·.2)) t kk l c x ∧ BlkOk X.N X.env.scope scope own ∧ (∀ i ∈ t.slots, i ∈ own.map (·.2)) ∧
      (PI X tg it (iM X.K (W F G k) G kk l) ∧ (kk ≠ .nam ∨ ∃ i, l = [.v i])) ∧ (∀ x, foldedSetIterable it X.env x = pure x) ∧
      ∀ (s : Shared) (H : Hp) (C : Addr) (cl : List (Str × Addr)) (fp : List Addr), PG (X.blk s H scope (compEnvC scope cl C X.env) fp) tg (gOf X.K t) ∧ PTs (X.blk s H scope (compEnvC scope cl C X.env) fp) ifs (tT X.K (W F G k) G c) ∧
        PE (X.blk s H scope (compEnvC scope cl C X.env) fp) elt (tE X.K (W F G k) G x) := by
  unfold trE at h
  simp only at h
  split at h
  · rename_i t kk l c x h1 h2 h3 h4 h5
    split at h
    · rename_i hsl
      split at h
      case isFalse => cases h
      rename_i hzip
      cases h
      refine ⟨ownOf N scope, t, kk, l, c, x, rfl, blkOk_by (by rw [hN, hs]; exact h1), fun i hi => ?_, ih.I g hN hs hzip h3, tr_noset h3 _, fun s H C cl fp => ?_⟩
      · exact of_decide_eq_true (List.all_eq_true.mp hsl i hi)
      · have gb := g.blk s H scope (compEnvC scope cl C X.env) fp
        have sb : (X.blk s H scope (compEnvC scope cl C X.env) fp).env.scope = relS scope sc := by rw [← hs]; rfl
        refine ⟨sg_of (X := X.blk s H scope (compEnvC scope cl C X.env) fp) hN (hN ▸ g.nd) g.calm (fun y hy => ?_) h2, ih.C gb hN sb h4, ih.E gb hN sb h5⟩
        unfold L2.Loc
        rw [sb]
        rcases hy with e | e
        · have z : (relS scope sc).names.lookup y = some .local := lookup_relS_keep (by decide) e
          exact ⟨.inl z, .inr z⟩
        · have z : (relS scope sc).names.lookup y = some .cell := lookup_relS_keep (by decide) e
          exact ⟨.inr z, .inl (by show (scope.names.lookup y == some .cell) = true; rw [e]; rfl)⟩
    · cases h
  · cases h
theorem snd_dc (ih : SndE F G L k N n) {X : Cx} {sc : Scope} {kx vx tg it : Expr} {ifs : List Expr} {scope : Scope} {pos : Pos} {m : E} (g : Good F G L k X) (hN : X.N = N) (hs : X.env.scope = sc)
    (h : trE N L (n + 1) sc (.DictComp kx vx [⟨tg, it, ifs, 0⟩] scope pos) = some m) : ∃ (own : List (Str × Nat)) (t : Tg) (kk : Ik) (l : List E) (c x y : E), m = .dc (own.map (·.2)) t kk l c x y ∧ BlkOk X.N X.env.scope scope own ∧ (∀ i ∈ t.slots, i ∈ own.map (·.2)) ∧
      (PI X tg it (iM X.K (W F G k) G kk l) ∧ (kk ≠ .nam ∨ ∃ i, l = [.v i])) ∧ (∀ x, foldedSetIterable it X.env x = pure x) ∧
      ∀ (s : Shared) (H : Hp) (C : Addr) (cl : List (Str × Addr)) (fp : List Addr), PG (X.blk s H scope (compEnvC scope cl C X.env) fp) tg (gOf X.K t) ∧ PTs (X.blk s H scope (compEnvC scope cl C X.env) fp) ifs (tT X.K (W F G k) G c) ∧
        PE (X.blk s H scope (compEnvC scope cl C X.env) fp) kx (tE X.K (W F G k) G x) ∧ PE (X.blk s H scope (compEnvC scope cl C X.env) fp) vx (tE X.K (W F G k) G y) := by
  unfold trE at h
  simp only at h
  split at h
  · rename_i t kk l c x y h1 h2 h3 h4 h5 h6
    split at h
    · rename_i hsl
      split at h
      case isFalse => cases h
      rename_i hzip
      cases h
      refine ⟨ownOf N scope, t, kk, l, c, x, y, rfl, blkOk_by (by rw [hN, hs]; exact h1), fun i hi => ?_, ih.I g hN hs hzip h3, tr_noset h3 _, fun s H C cl fp => ?_⟩
      · exact of_decide_eq_true (List.all_eq_true.mp hsl i hi)
      · have gb := g.blk s H scope (compEnvC scope cl C X.env) fp
        have sb : (X.blk s H scope (compEnvC scope cl C X.env) fp).env.scope = relS scope sc := by rw [← hs]; rfl
        refine ⟨sg_of (X := X.blk s H scope (compEnvC scope cl C X.env) fp) hN (hN ▸ g.nd) g.calm (fun z hy => ?_) h2, ih.C gb hN sb h4, ih.E gb hN sb h5, ih.E gb hN sb h6⟩
        unfold L2.Loc
        rw [sb]
        rcases hy with e | e
        · have zz : (relS scope sc).names.lookup z = some .local := lookup_relS_keep (by decide) e
          exact ⟨.inl zz, .inr zz⟩
        · have zz : (relS scope sc).names.lookup z = some .cell := lookup_relS_keep (by decide) e
          exact ⟨.inr zz, .inl (by show (scope.names.lookup z == some .cell) = true; rw [e]; rfl)⟩
    · cases h
  · cases h
theorem nostar_of {sc : Scope} {e : Expr} {m : E} (h : trE N L n sc e = some m) : ∀ u p, e ≠ .Starred u p := fun u p z => by
  subst z
  cases n with
  | zero => unfold trE at h; cases h
  | succ n => unfold trE at h; cases h
theorem isGl_of {sc : Scope} {x : Str} (h : isGl sc x = true) : sc.names.lookup x = some .globalImplicit := of_decide_eq_true h
/-- a call of a name -/
theorem snd_call (ih : SndE F G L k N n) {X : Cx} {sc : Scope} {f : Str} {p pos : Pos} {es : List Expr} {m : E} (g : Good F G L k X) (hN : X.N = N) (hs : X.env.scope = sc) (h : trE N L (n + 1) sc (.Call (.Name f p) es [] pos) = some m) :
    PE X (.Call (.Name f p) es [] pos) (tE X.K (W F G k) G m) := by
  unfold trE at h
  simp only at h
  split at h
  · cases h
  · rename_i hn
    rw [not_or, not_or] at hn
    have hg : Gl X f := gl_at hs (isGl_of (by simpa using hn.1))
    have hd : (f == ("__debug__" : Str)) = false := beq_eq_false_iff_ne.mpr hn.2.1
    split at h
    · rename_i gn as hin
      obtain ⟨p2, q2, rfl⟩ : ∃ p2 q2, es = [.Call (.Name gn p2) as [] q2] := by
        unfold inner at hin
        split at hin
        · split at hin
          · cases hin; exact ⟨_, _, rfl⟩
          · cases hin
        · cases hin
      split at h
      · cases h
      rename_i hg2
      have hg2 : Gl X gn := gl_at hs (isGl_of (by simpa using hg2))
      split at h
      · rename_i er
        subst er
        split at h
        · rename_i a ht
          obtain ⟨x, h1, rfl⟩ := map_some h
          exact se_lrg1 g (by rw [Bool.or_eq_true] at ht; rcases ht with ht | ht <;> (have := eq_of_beq ht; subst this; decide +kernel)) hg hg2 (ih.E g hN hs h1) (nostar_of h1)
        · rename_i a b ht
          split at h
          · rename_i x y h1 h2
            cases h
            exact se_lrg2 g (by rw [Bool.or_eq_true] at ht; rcases ht with ht | ht <;> (have := eq_of_beq ht; subst this; decide +kernel)) hg hg2 (ih.E g hN hs h1) (nostar_of h1) (ih.E g hN hs h2) (nostar_of h2)
          · cases h
        · cases h
      · split at h
        · rename_i er
          subst er
          split at h
          · rename_i a ht
            obtain ⟨x, h1, rfl⟩ := map_some h
            have := eq_of_beq ht
            subst this
            exact se_lset g hg hg2 (ih.E g hN hs h1) (nostar_of h1)
          · cases h
        · split at h
          · rename_i er
            subst er
            split at h
            · rename_i a b ht
              split at h
              · rename_i x y h1 h2
                cases h
                have := eq_of_beq ht
                subst this
                exact se_lzip g hg hg2 (sa_cons (nostar_of h1) (ih.E g hN hs h1) (sa_cons (nostar_of h2) (ih.E g hN hs h2) sa_nil)) (nostar_of h1) (nostar_of h2)
              · cases h
            · cases h
          · cases h
    split at h
    · rename_i hf
      subst hf
      split at h
      · rename_i a t q
        split at h
        · rename_i x ty h1 h2 h3
          cases h
          exact se_isi g hg (gl_at hs (isGl_of h1)) h3 (nostar_of h2) (ih.E g hN hs h2)
        · cases h
      · cases h
    · split at h
      · rename_i b hb
        have e := bt_of hb
        subst e
        split at h
        · cases h
        · rename_i e1 r hx
          obtain ⟨l, h1, rfl⟩ := map_some h
          obtain ⟨a1, a2, a3⟩ := ih.Es g hN hs h1
          exact se_blt g hg (a3 e1 (List.mem_cons_self ..)) (fun y hy => a3 y (List.mem_cons_of_mem _ hy)) a1
      · split at h
        · cases h
        · rename_i hL
          rw [not_or] at hL
          obtain ⟨l, h1, rfl⟩ := map_some h
          obtain ⟨a1, a2, a3⟩ := ih.Es g hN hs h1
          exact se_call g (Classical.not_not.mp hL.2) hg hd a3 a2 a1
theorem callO {o : Expr} {ap cp : Pos} (h : (ap.endLine == cp.line && !call0 o) = true) : (∀ p q r, o ≠ .Call (.Name p q) [] [] r) ∧ (ap.endLine == cp.line) = true := by
  rw [Bool.and_eq_true] at h
  exact ⟨fun q1 q2 q3 z => (by subst z; cases h.2), h.1⟩
theorem snd_mth (ih : SndE F G L k N n) {X : Cx} {sc : Scope} {o : Expr} {mm : Str} {ap cp : Pos} {es : List Expr} {m : E} (g : Good F G L k X) (hN : X.N = N) (hs : X.env.scope = sc) (h : trE N L (n + 1) sc (.Call (.Attribute o mm ap) es [] cp) = some m) :
    PE X (.Call (.Attribute o mm ap) es [] cp) (tE X.K (W F G k) G m) := by
  unfold trE at h
  simp only at h
  split at h
  · rename_i e
    subst e
    split at h
    · rename_i x key h1 h2
      obtain ⟨y, h3, rfl⟩ := map_some h
      obtain ⟨c1, c2⟩ := callO h1
      exact se_dget1 g (m1_of c1 c2 (nostar_of h3)) (ih.E g hN hs h2) (ih.E g hN hs h3)
    · rename_i x key d h1 h2
      split at h
      · rename_i y z h3 h4
        cases h
        obtain ⟨c1, c2⟩ := callO h1
        exact se_dget2 g (m2_of c1 c2 (nostar_of h3) (nostar_of h4)) (ih.E g hN hs h2) (ih.E g hN hs h3) (ih.E g hN hs h4)
      · cases h
    · cases h
  · split at h
    · rename_i e
      subst e
      split at h
      · rename_i x key d h1 h2
        split at h
        · rename_i y z h3 h4
          cases h
          obtain ⟨c1, c2⟩ := callO h1
          exact se_dsd g (m2_of c1 c2 (nostar_of h3) (nostar_of h4)) (ih.E g hN hs h2) (ih.E g hN hs h3) (ih.E g hN hs h4)
        · cases h
      · cases h
    · split at h
      · rename_i e
        subst e
        split at h
        · rename_i x key h1 h2
          obtain ⟨y, h3, rfl⟩ := map_some h
          obtain ⟨c1, c2⟩ := callO h1
          exact se_join c1 c2 (nostar_of h3) (ih.E g hN hs h2) (ih.E g hN hs h3)
        · cases h
      · split at h
        · rename_i mt x l h1 h2 h3 h4
          split at h
          · rename_i h10
            cases h
            obtain ⟨e, hm⟩ := mt_of h2
            subst e
            obtain ⟨a1, a2, a3⟩ := ih.Es g hN hs h4
            obtain ⟨c1, c2⟩ := callO h1
            exact se_mth g hm c1 c2 a3 h10 a2 (ih.E g hN hs h3) a1
          · cases h
        · cases h
theorem pj_of {X : Cx} {es : List Expr} {l : List E} (g : Good F G L k X) (hN : X.N = N) (hs : X.env.scope = X.env.scope) : ∀ {n : Nat} {sc : Scope}, X.env.scope = sc → (∀ m, m ≤ n → SndE F G L k N m) → ∀ {es : List Expr} {l : List E}, trEs N L n sc es = some l → PJ X es (l.map fun m => tE X.K (W F G k) G m)
  | 0, sc, hsc, ih, es, l, h => by unfold trEs at h; cases h
  | n + 1, sc, hsc, ih, es, l, h => by
    unfold trEs at h
    split at h
    · cases h; exact .nil
    · cases h
    · split at h
      · rename_i x l' h1 h2
        cases h
        exact .cons ((ih n (Nat.le_succ n)).E g hN hsc h1) (pj_of (es := es) (l := l) g hN rfl hsc (fun m hm => ih m (Nat.le_succ_of_le hm)) h2)
      · cases h
theorem PE.or {X : Cx} {e : Expr} {t1 t2 : TE} (h1 : PE X e t1) (h2 : PE X e t2) : PE X e (fun σ H Q => t1 σ H Q ∨ t2 σ H Q) := ⟨fun pins s σ H Q I q => q.elim (fun q => h1.run pins s σ H Q I q) fun q => h2.run pins s σ H Q I q⟩
theorem snd_E (ihs : ∀ m, m ≤ n → SndE F G L k N m) {X : Cx} {sc : Scope} {e : Expr} {m : E} (g : Good F G L k X) (hN : X.N = N) (hs : X.env.scope = sc) (h : trE N L (n + 1) sc e = some m) : PE X e (tE X.K (W F G k) G m) := by
  have ih := ihs n (Nat.le_refl n)
  have h0 := h
  unfold trE at h
  split at h
  · cases h; exact se_non
  · cases h; exact se_bl
  · cases h; exact se_int
  · cases h; exact se_str
  · rename_i x p
    split at h
    · rename_i i hi
      cases h
      obtain ⟨v1, v2, v3, v4⟩ := vis_of hi
      exact se_var (by rw [hN]; exact v2) (by rw [hs]; exact v1) v3 v4
    · rename_i hi
      cases h
      obtain ⟨v1, v2⟩ := gl_of hi
      exact se_glob (gl_at hs v1) (fun z hz => g.txt x z hz) v2
    · cases h
  · split at h
    · rename_i hl
      obtain ⟨l, h1, rfl⟩ := map_some h
      obtain ⟨a1, a2, _⟩ := ih.Es g hN hs h1
      exact se_tup (by rw [a2]; exact hl) a1
    · cases h
  · split at h
    · rename_i hl
      obtain ⟨l, h1, rfl⟩ := map_some h
      obtain ⟨a1, a2, _⟩ := ih.Es g hN hs h1
      exact se_lst (by rw [a2]; exact hl) a1
    · cases h
  · cases h; exact se_dnew
  · rename_i ks vs _ hne
    split at h
    · rename_i hc
      obtain ⟨l, h1, rfl⟩ := map_some h
      obtain ⟨prs, rfl, hp, hl⟩ := ih.P g hN hs h1
      refine se_dlit hp hc.1.1 hc.1.2 (fun z => ?_) hc.2
      subst z
      exact hne rfl (List.eq_nil_of_length_eq_zero hc.1.2.symm)
    · cases h
  · split at h
    · rename_i x y h1 h2 h3
      cases h
      exact se_bin h1 (ih.E g hN hs h2) (ih.E g hN hs h3)
    · cases h
  · obtain ⟨x, h1, rfl⟩ := map_some h
    exact se_neg (ih.E g hN hs h1)
  · obtain ⟨x, h1, rfl⟩ := map_some h
    exact se_notV (ih.E g hN hs h1)
  · exact ih.V g hN hs h
  · exact (snd_cmp ih g hN hs h0).2
  · exact (snd_cmp ih g hN hs h0).2
  · split at h
    · rename_i x y z h1 h2 h3
      cases h
      exact se_ifE (ih.T g hN hs h1) (ih.E g hN hs h2) (ih.E g hN hs h3)
    · cases h
  · exact snd_call ih g hN hs h0
  · split at h
    · cases h
    · rename_i hn
      rw [not_or, not_or] at hn
      split at h
      · rename_i x y h1 h2
        cases h
        obtain rfl := Classical.not_not.mp hn.2.1
        obtain rfl := Classical.not_not.mp hn.2.2
        exact se_mxd g (gl_at hs (isGl_of (by simpa using hn.1))) (ih.E g hN hs h1) (ih.E g hN hs h2) (nostar_of h1)
      · cases h
  · rename_i es p
    split at h
    · rename_i l h1 h2 h3
      cases h
      exact se_fst (pj_of (es := es) (l := l) g hN rfl hs ihs h3) (of_decide_eq_true h2)
    · cases h
  · obtain ⟨x, h1, rfl⟩ := map_some h
    exact se_fmt (ih.E g hN hs h1)
  · exact snd_mth ih g hN hs h0
  · split at h
    · rename_i x l hh h1 h2 h3
      cases h
      exact se_sl (ih.E g hN hs h1) (ih.O g hN hs h2) (ih.O g hN hs h3)
    · cases h
  · split at h
    · rename_i x y h1 h2 h3
      cases h
      exact se_ix g h1 (ih.E g hN hs h2) (ih.E g hN hs h3)
    · cases h
  · obtain ⟨own, t, kk, l, c, x, rfl, ok, ho, ⟨hi, hnm⟩, hset, hb⟩ := snd_lc ih g hN hs h0
    have z := fun pos => pe_lc (pos := pos) g.calm g.nd hi ok (fun s H C cl fp => (hb s H C cl fp).1) (fun s H C cl fp => (hb s H C cl fp).2.1) (fun s H C cl fp => (hb s H C cl fp).2.2) hset
    exact PE.imp (PE.or (z _) (pe_lock (z _))) fun τ H Q hq => lc_read ho hnm hq
  · obtain ⟨own, t, kk, l, c, x, y, rfl, ok, ho, ⟨hi, hnm⟩, hset, hb⟩ := snd_dc ih g hN hs h0
    have z := fun pos => pe_dc (pos := pos) g.calm g.nd hi ok (fun s H C cl fp => (hb s H C cl fp).1) (fun s H C cl fp => (hb s H C cl fp).2.1) (fun s H C cl fp => (hb s H C cl fp).2.2.1) (fun s H C cl fp => (hb s H C cl fp).2.2.2) hset
    exact PE.imp (PE.or (z _) (pe_lock (z _))) fun τ H Q hq => dc_read ho hnm hq
  · cases h
theorem snd_all2 : ∀ n, (∀ m, m ≤ n → SndE F G L k N m) ∧ ∀ {X : Cx} {sc : Scope} {a : Expr} {ops : List CmpOp} {bs : List Expr} {p : Pos} {m : E}, Good F G L k X → X.N = N → X.env.scope = sc → trE N L n sc (.Compare a ops bs p) = some m → PT X (.Compare a ops bs p) (tT X.K (W F G k) G m)
  | 0 => ⟨fun m hm => by have : m = 0 := by omega
                         subst this; exact snd0, fun _ _ _ h => by unfold trE at h; cases h⟩
  | n + 1 => by
    obtain ⟨ihs, ihC⟩ := snd_all2 n
    have ih := ihs n (Nat.le_refl n)
    have now : SndE F G L k N (n + 1) := ⟨fun g hN hs h => snd_E ihs g hN hs h, fun g hN hs h => snd_V ih g hN hs h, fun g hN hs h => snd_T ih g hN hs h (fun h => ihC g hN hs h), fun g hN hs h => snd_B ih g hN hs h, fun g hN hs h => snd_Es ih g hN hs h, fun g hN hs h => snd_O ih g hN hs h,
      fun g hN hs h => snd_C ih g hN hs h, fun g hN hs hz h => snd_I ih g hN hs hz h, fun g hN hs h => snd_P ih g hN hs h, fun h => nostar_of h⟩
    refine ⟨fun m hm => ?_, fun g hN hs h => (snd_cmp ih g hN hs h).1⟩
    by_cases e : m = n + 1
    · subst e; exact now
    · exact ihs m (by omega)
theorem snd_all (n : Nat) : SndE F G L k N n ∧ ∀ {X : Cx} {sc : Scope} {a : Expr} {ops : List CmpOp} {bs : List Expr} {p : Pos} {m : E}, Good F G L k X → X.N = N → X.env.scope = sc → trE N L n sc (.Compare a ops bs p) = some m → PT X (.Compare a ops bs p) (tT X.K (W F G k) G m) :=
  ⟨(snd_all2 n).1 n (Nat.le_refl n), (snd_all2 n).2⟩
end
end Mp

namespace Mp
open PySem L2 PySem.Spec PyProof.Rows

/-! ## statements -/
structure EnOk (K : PySem.W.Frag) (S : Sto) (H : Hp) (N : En) (Dn : Ends) : Prop where
  nx : ∀ σ S' τ H', Fr S H S' H' → RS K S' H' → RSl K H' σ τ → N.nx σ S' → Dn.nx τ H'
  rt : Kp K S H N.rt Dn.rt
  bk : ∀ σ S' τ H', Fr S H S' H' → RS K S' H' → RSl K H' σ τ → N.bk σ S' → Dn.bk τ H'
  ct : ∀ σ S' τ H', Fr S H S' H' → RS K S' H' → RSl K H' σ τ → N.ct σ S' → Dn.ct τ H'
theorem EnOk.on {K : PySem.W.Frag} {S S1 : Sto} {H H1 : Hp} {N : En} {Dn : Ends} (e : EnOk K S H N Dn) (f : Fr S H S1 H1) : EnOk K S1 H1 N Dn :=
  ⟨fun σ S' τ H' g => e.nx σ S' τ H' (f.trans g), e.rt.on f, fun σ S' τ H' g => e.bk σ S' τ H' (f.trans g), fun σ S' τ H' g => e.ct σ S' τ H' (f.trans g)⟩
def tS (K : PySem.W.Frag) (Wf : Callee) (G : Str → Option Str) (s : Sm) : TS := fun Dn τ H => ∃ (σ : Sl) (S : Sto) (N : En), RSl K H σ τ ∧ RS K S H ∧ N.ex = X0 ∧ wpS Wf G s N σ S ∧ EnOk K S H N Dn
def tB (K : PySem.W.Frag) (Wf : Callee) (G : Str → Option Str) (b : List Sm) : TS := fun Dn τ H => ∃ (σ : Sl) (S : Sto) (N : En), RSl K H σ τ ∧ RS K S H ∧ N.ex = X0 ∧ wpB Wf G b N σ S ∧ EnOk K S H N Dn
theorem PS.imp {X : Cx} {s : Stmt} {t t' : TS} (h : PS X s t) (f : ∀ D σ H, t' D σ H → t D σ H) : PS X s t' := ⟨fun pins st σ H D I q => h.run pins st σ H D I (f D σ H q)⟩
theorem PSs.imp {X : Cx} {s : List Stmt} {t t' : TS} (h : PSs X s t) (f : ∀ D σ H, t' D σ H → t D σ H) : PSs X s t' := ⟨fun pins st σ H D I q => h.run pins st σ H D I (f D σ H q)⟩
section
variable {X : Cx} {Wf : Callee} {G : Str → Option Str} {a b c e o i tg : Expr} {x y z : E} {pos : Pos}
theorem sb_nil : PSs X [] (tB X.K Wf G []) := PSs.imp pss_nil fun D τ H ⟨σ, S, N, rs, r, ex, w, k⟩ => by
  simp only [wpB] at w
  exact k.nx _ _ _ _ .refl r rs w
theorem sb_cons {s : Stmt} {l : List Stmt} {m : Sm} {ms : List Sm} (h1 : PS X s (tS X.K Wf G m)) (h2 : PSs X l (tB X.K Wf G ms)) : PSs X (s :: l) (tB X.K Wf G (m :: ms)) :=
  PSs.imp (pss_cons h1 h2) fun D τ H ⟨σ, S, N, rs, r, ex, w, k⟩ => by
    simp only [wpB] at w
    exact ⟨σ, S, { N with nx := wpB Wf G ms N }, rs, r, ex, w, ⟨fun σ1 S1 τ1 H1 f1 r1 rs1 w1 => ⟨σ1, S1, N, rs1, r1, ex, w1, k.on f1⟩, k.rt, k.bk, k.ct⟩⟩
theorem asg_read {te : TE} {t : Tg} {m : E} (hte : ∀ τ H Q, tE X.K Wf G m τ H Q → te τ H Q) {D : Ends} {τ : L2.St} {H : Hp} (h : tS X.K Wf G (.asg t m) D τ H) : tAsg te (gOf X.K t) D τ H := by
  obtain ⟨σ, S, N, rs, r, ex, w, k⟩ := h
  simp only [wpS] at w
  rw [ex] at w
  exact hte _ _ _ (tE.mk rs r w fun d S1 v H1 f1 r1 q1 w1 => gOf_ok q1 (rs.stay (f1.stay r)) w1 fun σ' τ' w2 rs2 _ => k.nx _ _ _ _ f1 r1 rs2 w2)
theorem noswap (h : isLc e = false) (t : Option Expr) (l : Nat) (env : PySem.Env) : swapsWith e t l env = pure false := by
  cases e <;> first | rfl | cases h
theorem ss_asg {t : Tg} (he : PE X e (tE X.K Wf G x)) (hg : PG X tg (gOf X.K t)) (hl : isLc e = false) (hw : swappedStores [tg] e X.env = pure none) (hne : ∀ u p, tg ≠ .Starred u p) : PS X (.Assign [tg] e pos) (tS X.K Wf G (.asg t x)) :=
  PS.imp (ps_asg he hg (noswap hl _ _ _) hw (by cases tg <;> first | rfl | exact absurd rfl (hne _ _))) fun D τ H h => asg_read (fun _ _ _ z => z) h
theorem PS.or {s : Stmt} {t1 t2 : TS} (h1 : PS X s t1) (h2 : PS X s t2) : PS X s (fun D τ H => t1 D τ H ∨ t2 D τ H) := ⟨fun pins st σ H D I q => q.elim (fun q => h1.run pins st σ H D I q) fun q => h2.run pins st σ H D I q⟩
def rSetD : TSet := fun o i v H Q => ∃ a H', o = .ref a ∧ DPut H a i v H' ∧ Q H'
theorem set_dict (hu : X.A.units + 65 < cLine) : PSet X rSetD := by
  intro pins s σ H o i v ov iv u Q I ro ri rv h
  obtain ⟨a, H', rfl, g, q⟩ := h
  obtain rfl : ov = Value.ref a := ro
  exact d_setItem (by omega) I g ri rv fun s' I' => ⟨H', I', q⟩
def rSetM : TSet := fun o i v H Q => rSetL o i v H Q ∨ rSetD o i v H Q
theorem set_all (hu : X.A.units + 65 < cLine) : PSet X rSetM := by
  intro pins s σ H o i v ov iv u Q I ro ri rv h
  exact h.elim (set_list pins s σ H o i v ov iv u Q I ro ri rv) (set_dict hu pins s σ H o i v ov iv u Q I ro ri rv)
theorem ss_set (hu : X.A.units + 65 < cLine) (he : PE X e (tE X.K Wf G x)) (ho : PE X o (tE X.K Wf G y)) (hi : PE X i (tE X.K Wf G z)) (hl : isLc e = false) (hp : plainIx i = true) {p : Pos} : PS X (.Assign [.Subscript o i p] e pos) (tS X.K Wf G (.set y z x)) := by
  have ha : ∀ v, assign (.Subscript o i p) X.env v = (do
      let ov ← holding [v] (eval o X.env)
      let iv ← holding [v, ov] (eval i X.env)
      standAt p
      holding [v, ov, iv] (setItem ov iv v)
      release [v, ov, iv] []) := fun v => by
    cases i <;> first | rfl | cases hp
  refine PS.imp (ps_asg he (pg_sub ho hi (set_all hu) ha) (show swapsWith e (some (.Subscript o i p)) pos.line X.env = pure false from noswap hl _ _ _) (by cases e <;> rfl) rfl) fun D τ H ⟨σ, S, N, rs, r, ex, w, k⟩ => ?_
  simp only [wpS] at w
  rw [ex] at w
  refine tE.mk rs r w fun d S1 v H1 f1 r1 q1 w1 => tE.mk (rs.stay (f1.stay r)) r1 w1 fun d2 S2 u H2 f2 r2 q2 w2 => tE.mk (rs.stay ((f1.trans f2).stay r)) r2 w2 fun d3 S3 t H3 f3 r3 q3 w3 => ?_
  cases q2 with
  | ref ad =>
    unfold pSet at w3
    dsimp only at w3
    split at w3
    · rename_i us e3
      obtain ⟨vs, hz, q⟩ := r3.lst e3
      obtain ⟨kk, j, rfl, hj, w3⟩ := w3
      cases q3
      have q1' := q1.stay ((f2.trans f3).stay r1)
      obtain ⟨r4, f4⟩ := set_list_ok r3 e3 (q.set q1' j)
      exact .inl ⟨_, vs, kk, j, rfl, rfl, hz, by rw [← q.length]; exact hj, k.nx _ _ _ _ (((f1.trans f2).trans f3).trans f4) r4 (rs.stay ((((f1.trans f2).trans f3).trans f4).stay r)) w3⟩
    · rename_i kvs e3
      obtain ⟨ls, hz, rk⟩ := r3 _ _ e3
      obtain ⟨key, hk, hlen, w3⟩ := w3
      have hy := kV_of hk q3
      subst hy
      have q1' := q1.stay ((f2.trans f3).stay r1)
      have nl : ∀ kvs', Ob.dic kvs ≠ .lck kvs' := fun _ z => nomatch z
      have st := stay_set r3 e3 (.dK (putK ls key v))
      have f4 := Fr.set (H := H3) e3 nl (.dK (putK ls key v)) (.dic (putD kvs key d))
      have r4 := r3.set e3 (o := .dK (putK ls key v)) (show RO X.K _ _ (.dic (putD kvs key d)) from ⟨_, upd_same, RKv.stay st (rk.put key q1')⟩)
      exact .inr ⟨_, _, rfl, DPut.k hz (by rw [← Paired.length rk]; exact hlen), k.nx _ _ _ _ (((f1.trans f2).trans f3).trans f4) r4 (rs.stay ((((f1.trans f2).trans f3).trans f4).stay r)) w3⟩
    · exact w3.elim
  | _ => exact w3.elim
def rAug (K : PySem.W.Frag) (op : Operator) : TIp := match op with
  | .Add => fun x y H Q => (∃ i j, x = .int i ∧ y = .int j ∧ Q (.int (i + j)) H)
  | .Sub => fun x y H Q => (∃ i j, x = .int i ∧ y = .int j ∧ Q (.int (i - j)) H)
  | _ => fun _ _ _ _ => False
theorem ip_aug (op : Operator) : PIp X op (rAug X.K op) := by
  cases op <;> first | exact ip_add | exact ip_sub | exact fun _ _ _ _ _ _ _ _ _ _ _ _ h => h.elim
theorem ss_ex (he : PE X e (tE X.K Wf G x)) (hl : isLc e = false) : PS X (.Expr e pos) (tS X.K Wf G (.ex x)) :=
  PS.imp (ps_expr he (noswap hl _ _ _)) fun D τ H ⟨σ, S, N, rs, r, ex, w, k⟩ => by
    simp only [wpS] at w
    rw [ex] at w
    exact tE.mk rs r w fun d S1 v H1 f1 r1 q1 w1 => k.nx _ _ _ _ f1 r1 (rs.stay (f1.stay r)) w1
theorem ss_ret (he : PE X e (tE X.K Wf G x)) : PS X (.Return (some e) pos) (tS X.K Wf G (.ret x)) :=
  PS.imp (ps_ret he) fun D τ H ⟨σ, S, N, rs, r, ex, w, k⟩ => by
    simp only [wpS] at w
    rw [ex] at w
    exact ⟨σ, S, _, rs, r, w, k.rt⟩
theorem ss_retN : PS X (.Return none pos) (tS X.K Wf G .retN) :=
  PS.imp ps_retN fun D τ H ⟨σ, S, N, rs, r, ex, w, k⟩ => by
    simp only [wpS] at w
    exact k.rt.at r .non w
theorem ss_ite {p q : List Stmt} {ms ns : List Sm} (hc : PT X c (tT X.K Wf G x)) (ha : PSs X p (tB X.K Wf G ms)) (hb : PSs X q (tB X.K Wf G ns)) : PS X (.If c p q pos) (tS X.K Wf G (.ite x ms ns)) :=
  PS.imp (ps_if hc ha hb) fun D τ H ⟨σ, S, N, rs, r, ex, w, k⟩ => by
    simp only [wpS] at w
    rw [ex] at w
    refine ⟨σ, S, _, rs, r, w, fun b S1 H1 f1 r1 w1 => ?_⟩
    cases b with
    | true => rw [if_pos rfl] at w1 ⊢; exact ⟨σ, S1, N, rs.stay (f1.stay r), r1, ex, w1, k.on f1⟩
    | false => rw [if_neg Bool.false_ne_true] at w1 ⊢; exact ⟨σ, S1, N, rs.stay (f1.stay r), r1, ex, w1, k.on f1⟩
theorem ss_brk : PS X (.Break pos) (tS X.K Wf G .brk) := PS.imp ps_break fun D τ H ⟨σ, S, N, rs, r, ex, w, k⟩ => by
  simp only [wpS] at w
  exact k.bk _ _ _ _ .refl r rs w
theorem ss_cnt : PS X (.Continue pos) (tS X.K Wf G .cnt) := PS.imp ps_continue fun D τ H ⟨σ, S, N, rs, r, ex, w, k⟩ => by
  simp only [wpS] at w
  exact k.ct _ _ _ _ .refl r rs w
theorem ss_pass : PS X (.Pass pos) (tS X.K Wf G .pass) := PS.imp ps_pass fun D τ H ⟨σ, S, N, rs, r, ex, w, k⟩ => by
  simp only [wpS] at w
  exact k.nx _ _ _ _ .refl r rs w
theorem ss_raise {s : Stmt} {u : Str} {es : List E} : PS X s (tS X.K Wf G (.raise u es)) := PS.imp ps_never fun D τ H ⟨σ, S, N, rs, r, ex, w, k⟩ => by
  simp only [wpS] at w
  obtain ⟨ds, _, w⟩ := w
  rw [ex] at w
  exact w
/-- the reading of a for, without a lock -/
theorem for_core {it : Expr} {t : Tg} {kk : Ik} {its : List E} {ms : List Sm} {D : Ends} {τ0 : L2.St} {H0 : Hp} {σ0 : Sl} {S0 : Sto} {N : En} (rs0 : RSl X.K H0 σ0 τ0) (r0 : RS X.K S0 H0) (ex : N.ex = X0) (k : EnOk X.K S0 H0 N D)
    (w : wpEs Wf G its σ0 S0 X0 fun xs S1 => pItK kk xs S1 fun items chk => wpFor chk (fun x N' σ' S' => wpTg t x σ' fun σ2 => wpB Wf G ms N' σ2 S') items N σ0 S1) : tFor (iM X.K Wf G kk its) (gOf X.K t) (tB X.K Wf G ms) D τ0 H0 := by
  refine ⟨σ0, S0, _, rs0, r0, w, fun u chk S1 H1 J f1 r1 io w1 => ?_⟩
  refine ⟨fun i m τ H => m = u.length - i ∧ i ≤ u.length ∧ ∃ (σ : Sl) (S : Sto), Fr S1 H1 S H ∧ RS X.K S H ∧ RSl X.K H σ τ ∧ wpFor chk (fun x N' σ' S' => wpTg t x σ' fun σ2 => wpB Wf G ms N' σ2 S') (u.drop i) N σ S,
    ⟨u.length, by simp, Nat.zero_le _, σ0, S1, .refl, r1, rs0.stay (f1.stay r0), by simpa using w1⟩, ?_⟩
  rintro i m τ H ⟨rfl, hi', σ, S, f2, r2, rs2, w2⟩
  by_cases hlt : i < u.length
  · rw [List.drop_eq_getElem_cons hlt] at w2
    unfold wpFor at w2
    obtain ⟨ck, w2⟩ := w2
    refine .inr ⟨io.go i S H hlt f2 r2 ck, fun τ' H' => i + 1 ≤ u.length ∧ ∃ (σ : Sl) (S : Sto), Fr S1 H1 S H' ∧ RS X.K S H' ∧ RSl X.K H' σ τ' ∧ wpFor chk (fun x N' σ' S' => wpTg t x σ' fun σ2 => wpB Wf G ms N' σ2 S') (u.drop (i + 1)) N σ S,
      fun τ' H' z => ⟨u.length - (i + 1), by omega, rfl, z.1, z.2⟩, fun xv H3 y => ?_⟩
    obtain ⟨rd, r3, f3⟩ := io.yld i u[i] S H xv H3 (List.getElem?_eq_getElem hlt) f2 r2 ck y
    refine gOf_ok rd (rs2.stay (f3.stay r2)) w2 fun σ4 τ4 w4 rs4 _ => ?_
    have fa := f2.trans f3
    exact ⟨σ4, S, { N with nx := wpFor chk (fun x N' σ' S' => wpTg t x σ' fun σ2 => wpB Wf G ms N' σ2 S') (u.drop (i + 1)) N, ct := wpFor chk (fun x N' σ' S' => wpTg t x σ' fun σ2 => wpB Wf G ms N' σ2 S') (u.drop (i + 1)) N, bk := N.nx }, rs4, r3, ex, w4, ⟨fun σ5 S5 τ5 H5 f5 r5 rs5 w5 => ⟨hlt, σ5, S5, fa.trans f5, r5, rs5, w5⟩, k.rt.on (f1.trans fa), fun σ5 S5 τ5 H5 f5 => k.nx σ5 S5 τ5 H5 ((f1.trans fa).trans f5), fun σ5 S5 τ5 H5 f5 r5 rs5 w5 => ⟨hlt, σ5, S5, fa.trans f5, r5, rs5, w5⟩⟩⟩
  · have e : i = u.length := by omega
    subst e
    rw [List.drop_eq_nil_of_le (Nat.le_refl _)] at w2
    unfold wpFor at w2
    exact .inl ⟨io.stop _ S H (Nat.le_refl _) f2 r2 w2.1, k.nx _ _ _ _ (f1.trans f2) r2 rs2 w2.2⟩
theorem EnOk.locked {K : PySem.W.Frag} {S : Sto} {H : Hp} {N : En} {D : Ends} (k : EnOk K S H N D) (r : RS K S H) {a : Addr} {kvs : List (Key × Mp.D)} {ls : List (Key × V)} {od : Obj} (e : S a = some (.dic kvs)) (z : H a = some (.dK ls)) :
    EnOk K (S.put a (.lck kvs)) (upd H a (.frz od (.dK ls))) (lockN a kvs N) ⟨fun σ' H' => H' a = some (.frz od (.dK ls)) ∧ D.nx σ' (upd H' a (.dK ls)), fun v H' => H' a = some (.frz od (.dK ls)) ∧ D.rt v (upd H' a (.dK ls)),
      fun σ' H' => H' a = some (.frz od (.dK ls)) ∧ D.bk σ' (upd H' a (.dK ls)), fun σ' H' => H' a = some (.frz od (.dK ls)) ∧ D.ct σ' (upd H' a (.dK ls))⟩ := by
  have lk : ∀ {S1 : Sto} {H1 : Hp}, Fr (S.put a (.lck kvs)) (upd H a (.frz od (.dK ls))) S1 H1 → H1 a = some (.frz od (.dK ls)) := fun f => by
    have := (f.2 a kvs put_same).2
    rwa [upd_same] at this
  exact ⟨fun σ S' τ H' f r1 rs w => ⟨lk f, k.nx σ _ τ _ (f.locked r e z) (r1.unlock w.1 (lk f)) (rs.stay (stay_unlock (lk f) _)) w.2⟩,
    fun d S' v H' f r1 q w => ⟨lk f, k.rt d _ v _ (f.locked r e z) (r1.unlock w.1 (lk f)) (q.stay (stay_unlock (lk f) _)) w.2⟩,
    fun σ S' τ H' f r1 rs w => ⟨lk f, k.bk σ _ τ _ (f.locked r e z) (r1.unlock w.1 (lk f)) (rs.stay (stay_unlock (lk f) _)) w.2⟩,
    fun σ S' τ H' f r1 rs w => ⟨lk f, k.ct σ _ τ _ (f.locked r e z) (r1.unlock w.1 (lk f)) (rs.stay (stay_unlock (lk f) _)) w.2⟩⟩
/-- what a name holds is walked, and locked where it is a dict -/
theorem lock_readS {kk : Ik} {its : List E} {T : TS} {P : Sl → List D → Sto → En → Prop} (hk : kk ≠ .nam ∨ ∃ i, its = [.v i]) {D : Ends} {τ : L2.St} {H : Hp}
    (core : ∀ {D : Ends} {τ : L2.St} {H : Hp} {σ : Sl} {S : Sto} {N : En}, RSl X.K H σ τ → RS X.K S H → N.ex = X0 → EnOk X.K S H N D → (wpEs Wf G its σ S X0 fun xs S1 => P σ xs S1 N) → T D τ H)
    {σ : Sl} {S : Sto} {N : En} (rs : RSl X.K H σ τ) (r : RS X.K S H) (ex : N.ex = X0) (k : EnOk X.K S H N D) (w : wpEs Wf G its σ S X0 fun xs S0 => lockS kk xs S0 N fun S1 N1 => P σ xs S1 N1) : T D τ H ∨ tLock T D τ H := by
  by_cases hn : kk = .nam
  · subst hn
    obtain ⟨i, rfl⟩ := hk.resolve_left (fun z => z rfl)
    simp only [wpEs, wpE] at w
    obtain ⟨d, hd, w⟩ := w
    have mk : ∀ {S2 : Sto} {N2 : En}, P σ [d] S2 N2 → wpEs Wf G [.v i] σ S2 X0 fun xs S1 => P σ xs S1 N2 := fun {S2 N2} h => by simp only [wpEs, wpE]; exact ⟨d, hd, h⟩
    unfold lockS at w
    split at w
    · rename_i xs2 a _ e1
      simp only [List.cons.injEq, and_true] at e1
      subst e1
      split at w
      · rename_i kvs e
        obtain ⟨ls, z, q⟩ := r _ _ e
        refine .inr ⟨a, .dK ls, z, trivial, fun od => ?_⟩
        obtain ⟨r1, st1⟩ := r.lock e z q od
        exact core (N := lockN a kvs N) (rs.stay st1) r1 ex (k.locked r e z) (mk w)
      · exact .inl (core rs r ex k (mk w))
    · exact .inl (core rs r ex k (mk w))
  · have z : ∀ xs S0 N1 P', lockS kk xs S0 N1 P' = P' S0 N1 := fun xs S0 N1 P' => by
      unfold lockS
      split
      · exact absurd rfl hn
      · rfl
    simp only [z] at w
    exact .inl (core rs r ex k w)
theorem ss_for {it : Expr} {body : List Stmt} {t : Tg} {kk : Ik} {its : List E} {ms : List Sm} (hp : PassesOwn (model X.prog X.w) X.A X.env X.xe) (hc : X.calm = true) (hi : PI X tg it (iM X.K Wf G kk its)) (hk : kk ≠ .nam ∨ ∃ i, its = [.v i]) (hg : PG X tg (gOf X.K t)) (hb : PSs X body (tB X.K Wf G ms))
    (hs : ∀ x, foldedSetIterable it X.env x = pure x) : PS X (.For tg it body [] pos) (tS X.K Wf G (.loop t kk its ms)) := by
  have z := ps_for (pos := pos) hp hc hi hg hb hs
  refine PS.imp (PS.or z (ps_lock z)) fun D τ0 H0 ⟨σ0, S0, N, rs0, r0, ex, w, k⟩ => ?_
  simp only [wpS] at w
  rw [ex] at w
  exact lock_readS (P := fun σ xs S1 N => pItK kk xs S1 fun items chk => wpFor chk (fun x N' σ' S' => wpTg t x σ' fun σ2 => wpB Wf G ms N' σ2 S') items N σ S1) hk (fun rs r ex k w => for_core (it := it) rs r ex k w) rs0 r0 ex k w
theorem ss_whl {body : List Stmt} {ms : List Sm} (hp : PassesOwn (model X.prog X.w) X.A X.env X.xe) (hc : PT X c (tT X.K Wf G x)) (hb : PSs X body (tB X.K Wf G ms)) : PS X (.While c body [] pos) (tS X.K Wf G (.whl x ms)) := by
  refine PS.imp (ps_while hp hc hb) fun D τ0 H0 ⟨σ0, S0, N, rs0, r0, ex, w, k⟩ => ?_
  simp only [wpS] at w
  rw [ex] at w
  obtain ⟨I, ⟨m0, w0⟩, turn⟩ := w
  refine ⟨fun m τ H => ∃ (σ : Sl) (S : Sto), Fr S0 H0 S H ∧ RS X.K S H ∧ RSl X.K H σ τ ∧ I m σ S, ⟨m0, σ0, S0, .refl, r0, rs0, w0⟩, ?_⟩
  rintro m τ H ⟨σ, S, f1, r1, rs1, w1⟩
  refine ⟨σ, S, _, rs1, r1, turn m σ S w1, fun b S2 H2 f2 r2 w2 => ?_⟩
  have rs2 := rs1.stay (f2.stay r1)
  cases b with
  | false =>
    dsimp only at w2 ⊢
    rw [if_neg Bool.false_ne_true] at w2 ⊢
    exact k.nx _ _ _ _ (f1.trans f2) r2 rs2 w2
  | true =>
    dsimp only at w2 ⊢
    rw [if_pos rfl] at w2 ⊢
    refine ⟨fun τ' H' => ∃ m', m' < m ∧ ∃ (σ : Sl) (S : Sto), Fr S0 H0 S H' ∧ RS X.K S H' ∧ RSl X.K H' σ τ' ∧ I m' σ S, fun τ' H' z => z, σ, S2, { N with nx := fun σ' S' => ∃ m', m' < m ∧ I m' σ' S', ct := fun σ' S' => ∃ m', m' < m ∧ I m' σ' S', bk := N.nx }, rs2, r2, ex, w2, ?_⟩
    have fa := f1.trans f2
    exact ⟨fun σ5 S5 τ5 H5 f5 r5 rs5 ⟨m', hm, w5⟩ => ⟨m', hm, σ5, S5, fa.trans f5, r5, rs5, w5⟩, k.rt.on fa, fun σ5 S5 τ5 H5 f5 => k.nx σ5 S5 τ5 H5 (fa.trans f5), fun σ5 S5 τ5 H5 f5 r5 rs5 ⟨m', hm, w5⟩ => ⟨m', hm, σ5, S5, fa.trans f5, r5, rs5, w5⟩⟩
end
end Mp

namespace Mp
open PySem L2 PySem.Spec PyProof.Rows

/-! ## what is translated means what the language says: statements, defs, the program -/
structure GoodS (F : Str → Option Fn) (G : Str → Option Str) (L : List Str) (k : Nat) (X : Cx) : Prop extends Good F G L k X where
  all : X.fn = fun _ => true
  pass : PassesOwn (model X.prog X.w) X.A X.env X.xe
  kind : X.env.scope.kind = .function
section
variable {X : Cx}
/-- name = {..} on one line, the name a local -/
theorem ps_setDc {i : Nat} {y : Str} {py : Pos} {kx vx tg iter : Expr} {ifs : List Expr} {scope : Scope} {own : List (Str × Nat)} {pos spos : Pos} {wi : TI} {g : TG} {tt : TT} {tk tv : TE} (hc : X.calm = true) (hN : X.N.Nodup) (hy : X.N[i]? = some y) (hyl : X.env.scope.names.lookup y = some .local)
    (hsw : swapsWith (.DictComp kx vx [⟨tg, iter, ifs, 0⟩] scope pos) (some (.Name y py)) spos.line X.env = pure true) (hi : PI X tg iter wi) (ok : BlkOk X.N X.env.scope scope own)
    (hg : ∀ (s : Shared) (H : Hp) (C : Addr) (cl : List (Str × Addr)) (fp : List Addr), PG (X.blk s H scope (compEnvC scope cl C X.env) fp) tg g) (ht : ∀ (s : Shared) (H : Hp) (C : Addr) (cl : List (Str × Addr)) (fp : List Addr), PTs (X.blk s H scope (compEnvC scope cl C X.env) fp) ifs tt)
    (hk : ∀ (s : Shared) (H : Hp) (C : Addr) (cl : List (Str × Addr)) (fp : List Addr), PE (X.blk s H scope (compEnvC scope cl C X.env) fp) kx tk)
    (he : ∀ (s : Shared) (H : Hp) (C : Addr) (cl : List (Str × Addr)) (fp : List Addr), PE (X.blk s H scope (compEnvC scope cl C X.env) fp) vx tv) (hs : ∀ x, foldedSetIterable iter X.env x = pure x) :
    PS X (.Assign [.Name y py] (.DictComp kx vx [⟨tg, iter, ifs, 0⟩] scope pos) spos) (tAsg (tDc wi g tt tk tv (own.map (·.2))) (gName i)) := by
  refine ⟨fun pins s σ H D I h => ?_⟩
  rw [exec_Assign_Name_used _ _ _ _ hsw]
  refine wpAny_bind (wpAny_standAt (wpAny_bind ?_))
  show wpAny _ X.A (do let _ ← comprehension (.DictComp kx vx [⟨tg, iter, ifs, 0⟩] scope pos) scope X.env (firstIterPos [⟨tg, iter, ifs, 0⟩] pos) newDict false (eval iter X.env) (some (assign (.Name y py) X.env))) _ _ s
  have h : tDc wi g tt tk tv (own.map (·.2)) σ H (fun x H1 => gName i x σ H1 D.nx) := h
  refine wpAny_bind (thn (L2.dc_core (Qf := fun _ s' => SP X pins D .next s') hc hN I hi ok hg ht hk he hs h fun L C s' m H' I' q hn f => ?_) fun _ s' hq => wpAny_pure (wpAny_pure hq))
  show wpAny _ _ (assign (.Name y py) X.env (.ref L)) _ _ _
  refine wpAny_assign_Name (store_ok2 (v := V.ref L) I' hN hy (.inl hyl) rfl (fun s2 I2 ⟨a, sb, ha⟩ => ?_) (.inr hyl))
  obtain ⟨f0, f1, f2, f3, f4, f5⟩ := f
  have haC : C ≠ a := by
    rcases ha with z | z
    · rw [z]; exact f1
    · exact fun e => f4 y a z e.symm
  refine ⟨m, hn.sameBut sb haC, fun h3 sb3 => ?_⟩
  exact ⟨_, H', I2.turned (t' := s2.toks) (fun b o hb e => (sb3.2 b hb).trans e) f0 f1 f3 f4 f5, q⟩
theorem sw_trueD {kx vx : Expr} {gs : List Comprehension} {scope : Scope} {pos py : Pos} {y : Str} {l : Nat} {env : PySem.Env} (hk : env.scope.kind = .function) (hy : env.scope.names.lookup y = some .local) (hl : (py.line == pos.line) = true)
    (ha : (scope.names.any fun y' => y'.1 == y && (y'.2 == .local || y'.2 == .cell)) = false) : swapsWith (.DictComp kx vx gs scope pos) (some (.Name y py)) l env = pure true := by
  have ky : env.kindOf y = some .local := hy
  have hb : env.blockKind = .function := by unfold PySem.Env.blockKind; rw [hk]; rfl
  unfold swapsWith
  simp only [hb, ky, ha, Expr.pos, hl]
  rfl
/-- a comprehension is stored, its dict locked or not -/
theorem asg_lock {Wf : Callee} {G : Str → Option Str} {kk : Ik} {its : List E} {T T' : TE} {P : Sl → List D → Sto → Post → Prop} {m : E} {i : Nat} (hT : ∀ τ H Q, T τ H Q → T' τ H Q)
    (core : ∀ {τ : L2.St} {H : Hp} {Q : VK} {σ : Sl} {S : Sto} {Q' : Post}, RSl X.K H σ τ → RS X.K S H → Kp X.K S H Q' Q → (wpEs Wf G its σ S X0 fun xs S1 => P σ xs S1 Q') → T τ H Q) (hk : kk ≠ .nam ∨ ∃ i, its = [.v i])
    (hm : ∀ σ S Q', wpE Wf G m σ S X0 Q' → wpEs Wf G its σ S X0 fun xs S0 => lockE kk xs S0 Q' fun S1 Q1 => P σ xs S1 Q1) {Dn : Ends} {τ : L2.St} {H : Hp} (h : tS X.K Wf G (.asg (.one i) m) Dn τ H) :
    tAsg T' (gName i) Dn τ H ∨ tLock (tAsg T' (gName i)) Dn τ H := by
  obtain ⟨σ, S, N, rs, r, ex, w, k⟩ := h
  simp only [wpS] at w
  rw [ex] at w
  have w := hm _ _ _ w
  have nxt : ∀ {S0 : Sto} {H0 : Hp} {N0 : En} {D0 : Ends}, RSl X.K H0 σ τ → RS X.K S0 H0 → EnOk X.K S0 H0 N0 D0 → Kp X.K S0 H0 (fun d S1 => wpTg (.one i) d σ fun σ1 => N0.nx σ1 S1) (fun v H1 => gName i v τ H1 D0.nx) := fun {S0 H0 N0 D0} rs r k d S1 v H1 f1 r1 q1 w1 =>
    k.nx _ _ _ _ f1 r1 ((rs.stay (f1.stay r)).set q1 i) w1
  by_cases hn : kk = .nam
  · subst hn
    obtain ⟨j, rfl⟩ := hk.resolve_left (fun z => z rfl)
    simp only [wpEs, wpE] at w
    obtain ⟨d, hd, w⟩ := w
    have mk : ∀ {S2 : Sto} {Q2 : Post}, P σ [d] S2 Q2 → wpEs Wf G [.v j] σ S2 X0 fun xs S1 => P σ xs S1 Q2 := fun {S2 Q2} h => by simp only [wpEs, wpE]; exact ⟨d, hd, h⟩
    unfold lockE at w
    split at w
    · rename_i xs2 a _ e1
      simp only [List.cons.injEq, and_true] at e1
      subst e1
      split at w
      · rename_i kvs e
        obtain ⟨ls, z, q⟩ := r _ _ e
        refine .inr ⟨a, .dK ls, z, trivial, fun od => ?_⟩
        obtain ⟨r1, st1⟩ := r.lock e z q od
        have z2 := nxt (rs.stay st1) r1 (k.locked (od := od) r e z)
        exact hT _ _ _ (core (rs.stay st1) r1 z2 (mk w))
      · exact .inl (hT _ _ _ (core rs r (nxt rs r k) (mk w)))
    · exact .inl (hT _ _ _ (core rs r (nxt rs r k) (mk w)))
  · have z : ∀ xs S0 Q1 P', lockE kk xs S0 Q1 P' = P' S0 Q1 := fun xs S0 Q1 P' => by
      unfold lockE
      split
      · exact absurd rfl hn
      · rfl
    simp only [z] at w
    exact .inl (hT _ _ _ (core rs r (nxt rs r k) w))
end
section
variable {F : Str → Option Fn} {G : Str → Option Str} {L : List Str} {k : Nat} {N : List Str} {n : Nat}
theorem GoodS.st {X : Cx} {sc : Scope} (g : GoodS F G L k X) (hs : X.env.scope = sc) : Stores X sc := fun x h => by
  rw [hs]
  exact ⟨h, .inl (by rw [g.all])⟩
theorem lc_shape {sc : Scope} {elt : Expr} {gs : List Comprehension} {scope : Scope} {p : Pos} {x : E} (h : trE N L n sc (.ListComp elt gs scope p) = some x) : ∃ tg it ifs, gs = [⟨tg, it, ifs, 0⟩] := by
  cases n with
  | zero => unfold trE at h; cases h
  | succ n =>
    unfold trE at h
    split at h <;> first
      | (rename_i e; cases e; done)
      | (rename_i e; cases e; exact ⟨_, _, _, rfl⟩)
      | (cases h; done)
theorem dc_shape {sc : Scope} {kx vx : Expr} {gs : List Comprehension} {scope : Scope} {p : Pos} {x : E} (h : trE N L n sc (.DictComp kx vx gs scope p) = some x) : ∃ tg it ifs, gs = [⟨tg, it, ifs, 0⟩] := by
  cases n with
  | zero => unfold trE at h; cases h
  | succ n =>
    unfold trE at h
    split at h <;> first
      | (rename_i e; cases e; done)
      | (rename_i e; cases e; exact ⟨_, _, _, rfl⟩)
      | (cases h; done)
/-- a comprehension stored under a name -/
theorem ss_lcN {X : Cx} {sc : Scope} {y : Str} {py p sp : Pos} {elt : Expr} {gs : List Comprehension} {scope : Scope} {i : Nat} {x : E} (g : GoodS F G L k X) (hN : X.N = N) (hs : X.env.scope = sc)
    (h1 : storeOf N sc (.Name y py) = some i) (h2 : trE N L n sc (.ListComp elt gs scope p) = some x)
    (hc : sc.names.lookup y = some .cell ∨ (scope.names.any fun y' => y'.1 == y && (y'.2 == .local || y'.2 == .cell)) = true ∨
          (sc.names.lookup y = some .local ∧ (py.line == p.line) = true ∧ (p.line == sp.line) = true ∧ (scope.names.any fun y' => y'.1 == y && (y'.2 == .local || y'.2 == .cell)) = false)) :
    PS X (.Assign [.Name y py] (.ListComp elt gs scope p) sp) (tS X.K (W F G k) G (.asg (.one i) x)) := by
  obtain ⟨y', p', e', hl, hi⟩ := storeOf_ok h1
  cases e'
  have hN' : X.N[i]? = some y := by rw [hN]; exact hi
  have hl' : L2.Loc X.env.scope y := by rw [hs]; exact hl
  have he : PE X (.ListComp elt gs scope p) (tE X.K (W F G k) G x) := (snd_all n).1.E g.toGood hN hs h2
  have off : swapsWith (.ListComp elt gs scope p) (some (.Name y py)) sp.line X.env = pure false → PS X (.Assign [.Name y py] (.ListComp elt gs scope p) sp) (tS X.K (W F G k) G (.asg (.one i) x)) := fun z =>
    PS.imp (ps_set g.nd hN' hl' he z (.inl (by rw [g.all]))) fun D τ H h => asg_read (fun _ _ _ z => z) h
  rcases hc with hc | hc | ⟨c1, c2, c3, c4⟩
  · refine off ?_
    have z : X.env.kindOf y = some .cell := by unfold PySem.Env.kindOf; rw [hs]; exact hc
    unfold swapsWith
    simp only [z]
    rw [show (some NameKind.cell == some NameKind.local) = false from rfl]
    simp
  · refine off ?_
    unfold swapsWith
    simp only [hc]
    simp
  · -- the comprehension stands alone in the translated clause
    obtain ⟨tg, it, ifs, rfl⟩ := lc_shape h2
    cases n with
    | zero => unfold trE at h2; cases h2
    | succ n =>
      obtain ⟨own, t, kk, l, c, x', rfl, ok, ho, ⟨hi2, hnm⟩, hset, hb⟩ := snd_lc (snd_all n).1 g.toGood hN hs h2
      have z := (ps_setLc (spos := sp) g.calm g.nd hN' (by rw [hs]; exact c1) (sw_true g.kind (by rw [hs]; exact c1) c2 c4) hi2 ok (fun s H C cl fp => (hb s H C cl fp).1) (fun s H C cl fp => (hb s H C cl fp).2.1) (fun s H C cl fp => (hb s H C cl fp).2.2) hset)
      exact PS.imp (PS.or z (ps_lock z)) fun D τ H h => asg_lock (fun _ _ _ q => q) (fun rs r k w => lc_core ho rs r k w) hnm (fun σ S Q' w => by simpa only [wpE] using w) h
/-- .. a dict comprehension -/
theorem ss_dcN {X : Cx} {sc : Scope} {y : Str} {py p sp : Pos} {kx vx : Expr} {gs : List Comprehension} {scope : Scope} {i : Nat} {x : E} (g : GoodS F G L k X) (hN : X.N = N) (hs : X.env.scope = sc)
    (h1 : storeOf N sc (.Name y py) = some i) (h2 : trE N L n sc (.DictComp kx vx gs scope p) = some x)
    (hc : sc.names.lookup y = some .cell ∨ (scope.names.any fun y' => y'.1 == y && (y'.2 == .local || y'.2 == .cell)) = true ∨
          (sc.names.lookup y = some .local ∧ (py.line == p.line) = true ∧ (p.line == sp.line) = true ∧ (scope.names.any fun y' => y'.1 == y && (y'.2 == .local || y'.2 == .cell)) = false)) :
    PS X (.Assign [.Name y py] (.DictComp kx vx gs scope p) sp) (tS X.K (W F G k) G (.asg (.one i) x)) := by
  obtain ⟨y', p', e', hl, hi⟩ := storeOf_ok h1
  cases e'
  have hN' : X.N[i]? = some y := by rw [hN]; exact hi
  have hl' : L2.Loc X.env.scope y := by rw [hs]; exact hl
  have he : PE X (.DictComp kx vx gs scope p) (tE X.K (W F G k) G x) := (snd_all n).1.E g.toGood hN hs h2
  have off : swapsWith (.DictComp kx vx gs scope p) (some (.Name y py)) sp.line X.env = pure false → PS X (.Assign [.Name y py] (.DictComp kx vx gs scope p) sp) (tS X.K (W F G k) G (.asg (.one i) x)) := fun z =>
    PS.imp (ps_set g.nd hN' hl' he z (.inl (by rw [g.all]))) fun D τ H h => asg_read (fun _ _ _ z => z) h
  rcases hc with hc | hc | ⟨c1, c2, c3, c4⟩
  · refine off ?_
    have z : X.env.kindOf y = some .cell := by unfold PySem.Env.kindOf; rw [hs]; exact hc
    unfold swapsWith
    simp only [z]
    rw [show (some NameKind.cell == some NameKind.local) = false from rfl]
    simp
  · refine off ?_
    unfold swapsWith
    simp only [hc]
    simp
  · -- the comprehension stands alone in the translated clause
    obtain ⟨tg, it, ifs, rfl⟩ := dc_shape h2
    cases n with
    | zero => unfold trE at h2; cases h2
    | succ n =>
      obtain ⟨own, t, kk, l, c, x', y', rfl, ok, ho, ⟨hi2, hnm⟩, hset, hb⟩ := snd_dc (snd_all n).1 g.toGood hN hs h2
      have z := (ps_setDc (spos := sp) g.calm g.nd hN' (by rw [hs]; exact c1) (sw_trueD g.kind (by rw [hs]; exact c1) c2 c4) hi2 ok (fun s H C cl fp => (hb s H C cl fp).1) (fun s H C cl fp => (hb s H C cl fp).2.1) (fun s H C cl fp => (hb s H C cl fp).2.2.1) (fun s H C cl fp => (hb s H C cl fp).2.2.2) hset)
      exact PS.imp (PS.or z (ps_lock z)) fun D τ H h => asg_lock (fun _ _ _ q => q) (fun rs r k w => Mp.dc_core ho rs r k w) hnm (fun σ S Q' w => by simpa only [wpE] using w) h
structure SndS (F : Str → Option Fn) (G : Str → Option Str) (L : List Str) (k : Nat) (N : List Str) (n : Nat) : Prop where
  S : ∀ {X : Cx} {sc : Scope} {s : Stmt} {m : Sm}, GoodS F G L k X → X.N = N → X.env.scope = sc → trS N L n sc s = some m → PS X s (tS X.K (W F G k) G m)
  B : ∀ {X : Cx} {sc : Scope} {s : List Stmt} {m : List Sm}, GoodS F G L k X → X.N = N → X.env.scope = sc → trB N L n sc s = some m → PSs X s (tB X.K (W F G k) G m)
theorem snd_S (ih : SndS F G L k N n) {X : Cx} {sc : Scope} {s : Stmt} {m : Sm} (g : GoodS F G L k X) (hN : X.N = N) (hs : X.env.scope = sc) (h : trS N L (n + 1) sc s = some m) : PS X s (tS X.K (W F G k) G m) := by
  have ie := (snd_all (F := F) (G := G) (L := L) (k := k) (N := N) n).1
  unfold trS at h
  split at h
  · split at h
    · rename_i i x h1 h2
      split at h
      · rename_i hc
        cases h
        exact ss_lcN g hN hs h1 h2 hc
      · cases h
    · cases h
  · split at h
    · rename_i i x h1 h2
      split at h
      · rename_i hc
        cases h
        exact ss_dcN g hN hs h1 h2 hc
      · cases h
    · cases h
  · split at h
    · rename_i x y z h1 h2 h3 h4 h5
      cases h
      exact ss_set g.un (ie.E g.toGood hN hs h3) (ie.E g.toGood hN hs h4) (ie.E g.toGood hN hs h5) h1 h2
    · cases h
  · rename_i es kq p e sp
    split at h
    · rename_i t x h1 h2 h3 h4
      cases h
      have hg := sg_of hN (hN ▸ g.nd) g.calm (g.st hs) h3
      refine ss_asg (ie.E g.toGood hN hs h4) hg h2 ?_ (fun _ _ z => nomatch z)
      cases e <;> first | rfl | cases h1
    · cases h
  · rename_i y py e sp hne hne2
    split at h
    · rename_i i x h1 h2 h3
      cases h
      have hg : PG X (.Name y py) (gOf X.K (.one i)) := sg_of hN (hN ▸ g.nd) g.calm (g.st hs) (show trTg N sc (.Name y py) = some (.one i) by show (storeOf N sc (.Name y py)).map Tg.one = _; rw [h2]; rfl)
      exact ss_asg (ie.E g.toGood hN hs h3) hg h1 (by cases e <;> rfl) (fun _ _ z => nomatch z)
    · cases h
  · rename_i y py o e sp
    split at h
    · rename_i i x h1 h2 h3
      cases h
      obtain ⟨y', p', e', hl, hi⟩ := storeOf_ok h2
      cases e'
      refine PS.imp (ps_aug g.nd (by rw [hN]; exact hi) (by rw [hs]; exact hl) (ie.E g.toGood hN hs h3) (ip_aug o) (.inl (by rw [g.all]))) fun D τ H ⟨σ, S, N', rs, r, ex, w, kk⟩ => ?_
      simp only [wpS] at w
      obtain ⟨d, hd, w⟩ := w
      rw [ex] at w
      obtain ⟨v, hv, rv⟩ := rs.2 i d hd
      refine ⟨v, hv, tE.mk rs r w fun d2 S1 u H1 f1 r1 q1 w1 => ?_⟩
      have rv1 := rv.stay (f1.stay r)
      have fin : ∀ z, N'.nx (σ.set i (some (.int z))) S1 → D.nx (τ.set i (some (.int z))) H1 := fun z hz => kk.nx _ _ _ _ f1 r1 ((rs.stay (f1.stay r)).set (.int z) i) hz
      rw [Bool.or_eq_true, decide_eq_true_eq, decide_eq_true_eq] at h1
      rcases h1 with rfl | rfl
      · obtain ⟨a, b, rfl, rfl, w1⟩ := w1
        cases rv1
        cases q1
        exact ⟨a, b, rfl, rfl, fin _ w1⟩
      · obtain ⟨a, b, rfl, rfl, w1⟩ := w1
        cases rv1
        cases q1
        exact ⟨a, b, rfl, rfl, fin _ w1⟩
    · cases h
  · split at h
    · rename_i x h1 h2
      cases h
      exact ss_ex (ie.E g.toGood hN hs h2) h1
    · cases h
  · cases h; exact ss_retN
  · obtain ⟨x, h1, rfl⟩ := map_some h
    exact ss_ret (ie.E g.toGood hN hs h1)
  · split at h
    · rename_i x y z h1 h2 h3
      cases h
      exact ss_ite (ie.T g.toGood hN hs h1) (ih.B g hN hs h2) (ih.B g hN hs h3)
    · cases h
  · split at h
    · rename_i t kk l y h1 h2 h3
      split at h
      case isFalse => cases h
      rename_i hz
      cases h
      obtain ⟨i1, i2⟩ := ie.I g.toGood hN hs hz h2
      exact ss_for g.pass g.calm i1 i2 (sg_of hN (hN ▸ g.nd) g.calm (g.st hs) h1) (ih.B g hN hs h3) (tr_noset h2 _)
    · cases h
  · split at h
    · rename_i x y h1 h2
      cases h
      exact ss_whl g.pass (ie.T g.toGood hN hs h1) (ih.B g hN hs h2)
    · cases h
  · cases h; exact ss_brk
  · cases h; exact ss_cnt
  · cases h; exact ss_pass
  · obtain ⟨l, h1, rfl⟩ := map_some h
    exact ss_raise
  · cases h
theorem sndS_all : ∀ n, SndS F G L k N n
  | 0 => ⟨fun {_ _ _ _} _ _ _ h => (by unfold trS at h; cases h), fun {_ _ _ _} _ _ _ h => (by unfold trB at h; cases h)⟩
  | n + 1 => by
    have ih := sndS_all n
    refine ⟨fun g hN hs h => snd_S ih g hN hs h, fun {X sc s m} g hN hs h => ?_⟩
    unfold trB at h
    split at h
    · cases h; exact sb_nil
    · split at h
      · rename_i x y h1 h2
        cases h
        exact sb_cons (ih.S g hN hs h1) (ih.B g hN hs h2)
      · cases h
end
end Mp

namespace Mp
open PySem L2 PySem.Spec PyProof.Rows

/-! ## a def by its body -/
section
variable {P : Program} {w : World} {K : PySem.W.Frag} {mg : Str → Option Value} {base : Heap} {k : Nat}
theorem fnG_of {x : Str} {st : Stmt} {f : Addr} {fd : FuncData} {N ps : List Str} {sp : List V → Hp → VK → Prop} (D : Fun K x x st f fd) (S : FnScope N ps (defScope st)) (len : ∀ vs H Q, sp vs H Q → vs.length = ps.length)
    (body : ∀ (cdv : Value) (A : Around) (outer : List PySem.Env) (s : Shared) (H : Hp) (vs : List V) (Q : VK), Room k (A.deeper (envOfC x (defScope st) s.heap.objs.size f cdv)) → A.guards = some [] → sp vs H Q →
      ∃ t, PSs (cxOf CX0 P w K mg base N x (defScope st) f cdv A outer s H E0).nox (defBody st) t ∧ t { nx := fun _ H' => Q .non H', rt := Q } (start N vs) H) : FnG P w K mg base (k + 1) f fd ps sp := by
  obtain ⟨oc, od, kV, doc, pm, an, cdv, ct, osl, rfl, lk, cd⟩ := D.ex
  refine ⟨len, fun A outer s H args us vs Q room quiet e0 bind rel pre => ?_⟩
  have nv := len _ _ _ pre
  have kin : K.In s.heap := e0.mod.kin.keeps fun b o z => (e0.bs b o z).1
  have limit : s.heap.NoLimit := e0.mod.nolimit.keeps fun b o z => (e0.bs b o z).1
  have kinds : ∀ y ∈ ps.zip us, (defScope st).names.lookup y.1 = some .local ∨ ((defScope st).names.lookup y.1 = some .cell ∧
      ((cellsFrom (s.heap.objs.size + 1) (defScope st).names []).lookup y.1).isSome = true) := by
    rintro ⟨n, v⟩ hy
    exact (S.par n (List.of_mem_zip hy).1).imp id fun q => ⟨q, PySem.W.cellsFrom_some _ _ _ (.inl q)⟩
  refine codeAny_call_function room.depth (kin _ _ lk) rfl S.co S.gen rfl (PySem.W.codeRec_of kin cd) (bind _ _ _ _ ?_)
  refine wpAny_newFunctionEnv_cells S.kind kinds fun env he s1 xi => ?_
  subst he
  obtain ⟨t, ht, hq⟩ := body cdv A outer s H vs Q (room.deeper _) quiet pre
  have inv0 : Inv (cxOf CX0 P w K mg base N x (defScope st) f cdv A outer s H E0) [] (start N vs) H s1 := inv_start S room.hd e0 nv rel xi
  refine ⟨limit.keeps xi.toInCall.keep, codeAny_func (wpAny_mono (ht.nox.run [] s1 (start N vs) H _ inv0 hq) (fun fl s' z => ?_) fun e s' z => z)⟩
  match fl, z with
  | .ret u, ⟨v, σ', H', J, rv, q⟩ => exact ⟨v, H', J.os, J.bare, J.base, J.hok, rv, q⟩
  | .next, ⟨σ', H', J, q⟩ => exact ⟨V.non, H', J.os, J.bare, J.base, J.hok, rfl, q⟩
  | .brk, ⟨_, _, _, q⟩ => exact q.elim
  | .cont, ⟨_, _, _, q⟩ => exact q.elim
end
/-! ## the program -/
/-- a def of the program's top, and its place in the table -/
structure DefOk (K : PySem.W.Frag) (mg : Str → Option Value) (F : Str → Option Fn) (L : List Str) (f : Str) (st : Stmt) (fn : Fn) (N : List Str) (n : Nat) (a : Addr) (fd : FuncData) : Prop where
  tab : F f = some fn
  fun_ : Fun K f f st a fd
  mg_ : mg f = some (.ref a)
  sc : FnScope N (N.take fn.ps) (defScope st)
  len : N.length = fn.n
  ps : (N.take fn.ps).length = fn.ps
  tr : trB N L n (defScope st) (defBody st) = some fn.body
  bind : Binds K fd (N.take fn.ps) []
theorem RSl.start {K : PySem.W.Frag} {H : Hp} {N : List Str} {ds : List D} {vs : List V} (r : RDs K H ds vs) : RSl K H (startD N.length ds) (L2.start N vs) := by
  unfold startD L2.start
  refine ⟨by simp [r.length], fun i d h => ?_⟩
  by_cases hi : i < ds.length
  · rw [List.getElem?_append_left (by simpa using hi), List.getElem?_map] at h
    cases e : ds[i]? with
    | none => rw [e] at h; cases h
    | some d' =>
      rw [e] at h; cases h
      obtain ⟨v, hv, q⟩ := r.get e
      exact ⟨v, by rw [List.getElem?_append_left (by rw [List.length_map, ← r.length]; exact hi), List.getElem?_map, hv]; rfl, q⟩
  · rw [List.getElem?_append_right (by simpa using hi), List.getElem?_replicate] at h
    split at h <;> cases h
theorem prog_ok {P : Program} {w : World} {K : PySem.W.Frag} {mg : Str → Option Value} {base : Heap} {F : Str → Option Fn} {G : Str → Option Str} {L : List Str} (sm : ∃ m, base.Ns sysModules m)
    (defs : ∀ f ∈ L, ∃ st fn N n a fd, DefOk K mg F L f st fn N n a fd) (blt : ∀ x ∈ bltNames, mg x = none) (txt : ∀ x z, G x = some z → ∃ u, mg x = some u ∧ RelV (.str z) u) :
    ∀ (k : Nat) (f : Str) (st : Stmt) (fn : Fn) (N : List Str) (n : Nat) (a : Addr) (fd : FuncData), DefOk K mg F L f st fn N n a fd → FnG P w K mg base k a fd (N.take fn.ps) (spF K F G k f)
  | 0, f, st, fn, N, n, a, fd, d => by
    have no : ∀ vs H Q, ¬ spF K F G 0 f vs H Q := fun vs H Q ⟨ds, S, Q', _, _, h, _⟩ => h
    exact ⟨fun vs H Q h => absurd h (no vs H Q), fun A outer s H args us vs Q _ _ _ _ _ h => absurd h (no vs H Q)⟩
  | k + 1, f, st, fn, N, n, a, fd, d => by
    have ih := prog_ok (P := P) (w := w) (base := base) sm defs blt txt k
    refine fnG_of d.fun_ d.sc (fun vs H Q ⟨ds, S, Q', r1, _, h, _⟩ => ?_) fun cdv A outer s H vs Q room quiet ⟨ds, S, Q', rd, r, h, kk⟩ => ?_
    · obtain ⟨fn', e, hl, _⟩ := h
      rw [d.tab] at e; cases e
      rw [← r1.length, hl, d.ps]
    · obtain ⟨fn', e, hl, wb⟩ := h
      rw [d.tab] at e; cases e
      have g : GoodS F G L k (cxOf CX0 P w K mg base N f (defScope st) a cdv A outer s H E0).nox := by
        refine ⟨⟨d.sc.nd, rfl, room, quiet, sm, blt, txt, fun f' hf => ?_⟩, rfl, PassesOwn.never, d.sc.kind⟩
        obtain ⟨st', fn', N', n', a', fd', d'⟩ := defs f' hf
        exact ⟨a', fd', _, d'.mg_, d'.fun_.kp, d'.bind, ih f' st' fn' N' n' a' fd' d'⟩
      refine ⟨_, (sndS_all n).B g rfl rfl d.tr, ?_⟩
      refine ⟨startD fn.n ds, S, { nx := fun _ S' => Q' .non S', rt := Q', ex := X0 }, by rw [← d.len]; exact RSl.start rd, r, rfl, wb, ⟨fun σ S' τ H' f1 r1 _ q => kk _ _ _ _ f1 r1 .non q, kk, fun _ _ _ _ _ _ _ q => q.elim, fun _ _ _ _ _ _ _ q => q.elim⟩⟩
/-! ## the law's call -/
theorem law_callG {P : Program} {w : World} {K : PySem.W.Frag} {mg mb : Str → Option Value} {k : Nat} {fa a : Addr} {fd : FuncData} {x : Str} {sp : List V → Hp → VK → Prop} {s1 : Shared} {us : List Value} {ns : List Int}
    (kin : K.In s1.heap) (glob : s1.heap.Ns mainGlobals mg) (bns : s1.heap.Ns builtinsNs mb) (bok : ∀ x : Str, x ≠ "__name__" → mb x = bootBuiltins x) (limit : s1.heap.NoLimit) (mods : ∃ m, s1.heap.Ns sysModules m) (gens : s1.gens = #[])
    (obj : s1.heap.get? a = some { cls := .type "list", data := .seq us.toArray }) (nums : IntsAre us ns) (short : ns.length ≤ sizeLine) (room : Room k callerA)
    (F : ∀ base : Heap, K.In base → base.Ns mainGlobals mg → (∃ m, base.Ns sysModules m) → FnG P w K mg base k fa fd [x] sp) (bind : ∀ (s : Shared) (u : Value), BindsTo s fd ⟨[u], []⟩ [(x, u)])
    (pre : ∀ H : Hp, (∀ xs, H a ≠ some (.lst xs)) → (∀ b, H b ≠ none → b = a) → SqL K H a (ns.map V.int) → sp [.ref a] H (fun v _ => v = .bl true)) :
    codeAny (model P w) callerA (.call (.ref fa) ⟨[.ref a], []⟩) (fun r s' => r = .ok (.ret (.bool true)) ∧ OldK s1.heap s'.heap ∧ s'.os = s1.os ∧ AllBare s'.gens) s1 := by
  have rel := vals_ints nums
  have core : ∀ H : Hp, (∀ b u, H b = some u → b = a ∧ ∃ o xs, u = .frz o (.lst xs)) → SqL K H a (ns.map V.int) → HOk P w H s1.heap → (H a ≠ none → K.lookup a = none) →
      codeAny (model P w) callerA (.call (.ref fa) ⟨[.ref a], []⟩) (fun r s' => r = .ok (.ret (.bool true)) ∧ OldK s1.heap s'.heap ∧ s'.os = s1.os ∧ AllBare s'.gens) s1 := by
    intro H only sq hok kno
    have isA : ∀ b, H b ≠ none → b = a := fun b z => by
      cases e : H b with
      | none => exact absurd e z
      | some u => exact (only b u e).1
    have free : ∀ {b : Addr} {o : Obj} {es : Array DictEntry} {n : Nat}, s1.heap.get? b = some o → o.data = .dict es n → H b = none := by
      intro b o es n e d
      cases q : H b with
      | none => rfl
      | some u =>
        have z := isA b (by rw [q]; simp)
        subst z
        rw [obj] at e
        cases e
        cases d
    have ns_ : ∀ {b : Addr} {m : Str → Option Value}, s1.heap.Ns b m → (hidT s1.heap H).Ns b m := by
      rintro b m ⟨o, es, n, e, d, r⟩
      exact ⟨o, es, n, hidT_get e (free e d), d, r⟩
    have kin' : K.In (hidT s1.heap H) := by
      intro b o e
      refine hidT_get (kin b o e) ?_
      cases q : H b with
      | none => rfl
      | some u =>
        have z := isA b (by rw [q]; simp)
        subst z
        rw [kno (by rw [q]; simp)] at e
        cases e
    obtain ⟨mc, l1, l2⟩ := limit
    have mod : Mod K mg (hidT s1.heap H) := { kin := kin', glob := ns_ glob, blt := ⟨mb, ns_ bns, bok⟩, nolimit := ⟨mc, ns_ l1, l2⟩ }
    have e0 : Env0 P w K mg (hidT s1.heap H) callerA [] s1 H :=
      { frames := rfl, mod := mod, bs := fun b o e => of_hidT e, bsz := Nat.le_of_eq (hidT_size _ _), funs := trivial, frf := fun b hb => (by cases hb), hok := hok, bare := .of_eq gens }
    have nolst : ∀ xs, H a ≠ some (.lst xs) := fun xs z => by
      obtain ⟨_, o, ys, e⟩ := only a _ z
      cases e
    have run := (F _ kin' (ns_ glob) (let ⟨m, h⟩ := mods; ⟨m, ns_ h⟩)).run callerA [] s1 H ⟨[.ref a], []⟩ [.ref a] [.ref a] (fun v _ => v = .bl true) room rfl e0 (bind s1 (.ref a)) (.cons rfl .nil) (pre H nolst isA sq)
    refine codeAny_mono run fun r s' h => ?_
    match r, h with
    | .error e, h => exact h.elim
    | .ok .next, h => exact h.elim
    | .ok .brk, h => exact h.elim
    | .ok .cont, h => exact h.elim
    | .ok (.ret u), ⟨v, H', os, bare, un, hok', rv, q⟩ =>
      have q : v = .bl true := q
      subst q
      have ev : u = Value.bool true := rv
      subst ev
      refine ⟨rfl, OldK.of_keep fun b o e => ?_, os, bare⟩
      cases hb : H b with
      | none => exact un.keep b o e hb (fun z => by cases z) (fun z => by cases z)
      | some t =>
        obtain ⟨_, ob, xs, et⟩ := only b t hb
        subst et
        have e1 := (hok b _ hb).1
        have e2 := (hok' b _ (un.frzs b ob _ hb)).1
        rw [e] at e1
        cases e1
        exact e2
  cases hk : K.lookup a with
  | some o =>
    have e := kin a o hk
    rw [obj] at e
    cases e
    refine core (fun _ => none) (fun b u z => by cases z) (.inr ⟨_, us.toArray, _, hk, rfl, rfl, rfl, ?_, by simpa using rel⟩) (fun b u z => by cases z) (fun z => absurd rfl z)
    rw [List.size_toArray, nums.length]; exact short
  | none =>
    have hit : ∀ {b : Addr} {u : HO}, (if b = a then some (HO.frz { cls := .type "list", data := .seq us.toArray } (.lst (ns.map V.int))) else none) = some u → b = a ∧ u = HO.frz { cls := .type "list", data := .seq us.toArray } (.lst (ns.map V.int)) := by
      intro b u z
      by_cases hb : b = a
      · rw [if_pos hb] at z; exact ⟨hb, (Option.some.inj z).symm⟩
      · rw [if_neg hb] at z; cases z
    refine core (fun b => if b = a then some (.frz { cls := .type "list", data := .seq us.toArray } (.lst (ns.map V.int))) else none) (fun b u z => ?_) (.inl (.inr ⟨_, if_pos rfl⟩)) (fun b u z => ?_) fun _ => hk
    · obtain ⟨e1, e2⟩ := hit z
      exact ⟨e1, _, _, e2⟩
    · obtain ⟨e1, e2⟩ := hit z
      subst e1 e2
      exact ⟨obj, by rw [List.length_map]; exact short, us, _, rel, obj⟩
/-- THE END: what the language says of law(script) is the row -/
theorem walkG {l : PySem.W.OpenLaw} {n k : Nat} {q : Program} {loose : List Str} {XP : (Str → Option Value) → Heap → Prop} {YP : World → Heap → Prop} {d : DefRec} {K : Params → PySem.W.Frag} {F : Str → Option Fn} {G : Str → Option Str} {L : List Str}
    (hn : l.most = some n) (hn2 : n ≤ sizeLine) (hdf : d.params.defaults = []) (him : PyProof.Rows.importsNone q = true) (room : Room k callerA) (hY : ∀ (w : World) (h : Heap), YP w h → (K w.params).In h)
    (hF : ∀ (w : World) (mg : Str → Option Value) (fa : Addr) (h : Heap), (K w.params).In h → h.Ns mainGlobals mg → mg d.name = some (.ref fa) →
      (∀ f ∈ L, ∃ st fn N n a fd, DefOk (K w.params) mg F L f st fn N n a fd) ∧ (∀ x ∈ bltNames, mg x = none) ∧ (∀ x z, G x = some z → ∃ u, mg x = some u ∧ RelV (.str z) u) ∧
      ∃ st fn N n fd, DefOk (K w.params) mg F L "law" st fn N n fa fd ∧ N.take fn.ps = ([("script" : Str)] : List Str) ∧ ∀ (s : Shared) (u : Value), BindsTo s fd ⟨[u], []⟩ [(("script" : Str), u)])
    (law : ∀ ns : List Int, ns.length ≤ n → W F G k "law" [.scr ns] (fun _ => none) X0 (fun d _ => d = .bl true)) :
    PySem.W.WalkO q loose XP YP l.row.toRowW d [] (fun f vs => PySem.call f vs) := by
  refine Att.attach_call hn hdf fun w s0 s1 mg mb fa o pm cd doc a vs ns Gd Y ho hd hcd hmg hobj hints hlen hg => ?_
  have KX := hY w _ Y
  obtain ⟨defs, blt, txt, st, fn, N, m, fd, dl, hps, hb⟩ := hF w mg fa _ KX Gd.T.g hmg
  refine law_callG KX Gd.T.g Gd.T.b Gd.T.builtins Gd.T.nolimit (let ⟨m, h, _⟩ := (Gd.T.seer him).mods; ⟨m, h⟩) hg hobj hints (Nat.le_trans hlen hn2) room (fun base _ _ sm => hps ▸ prog_ok sm defs blt txt k "law" st fn N m fa fd dl) hb fun H nl _ sq => ?_
  refine ⟨[.scr ns], fun _ => none, fun d _ => d = .bl true, .cons (.scr ?_) .nil, (fun b u z => by cases z), law ns hlen, fun d S' v H' _ _ q e => ?_⟩
  · rcases sq with (z | z) | z
    · exact absurd z (nl _)
    · exact .inl z
    · exact .inr z
  · subst e; cases q; rfl
end Mp

namespace Mp
open PySem

/-! ## the language on values: lists and dicts stand as they are, each held by one name where it is changed -/
inductive Vl where
  | non | bl (b : Bool) | int (i : Int) | str (x : Str) | tup (xs : List Vl) | scr (ns : List Int) | lst (xs : List Vl) | dic (kvs : List (L2.Key × Vl))
  deriving Inhabited
/-- a slot: shared, a local's own, a parameter that is changed, lent -/
inductive Kd where
  | shr | own | io | bor
  deriving DecidableEq
def Kd.ow : Kd → Bool
  | .own | .io => true
  | _ => false
def kat (κ : List Kd) (i : Nat) : Kd := (κ[i]?).getD .shr
abbrev Env := List (Option Vl)
abbrev Rt := Vl × List (Option Vl)
abbrev Cal := Str → List Vl → Option Rt
structure Pr where
  F : Str → Option Fn
  G : Str → Option Str
  K : Str → List Kd
  R : Str → Bool
section
variable {α β : Type}
def ob (x : Option α) (f : α → Option β) : Option β := match x with
  | some a => f a
  | none => none
def cnd (b : Bool) (x y : α) : α := match b with
  | true => x
  | false => y
noncomputable def gd (p : Prop) (x : Option α) : Option α := match Classical.propDecidable p with
  | .isTrue _ => x
  | .isFalse _ => none
theorem gd_pos {p : Prop} {x : Option α} (h : p) : gd p x = x := by
  unfold gd
  split
  · rfl
  · contradiction
theorem gd_some {p : Prop} {x : Option α} {r : α} (h : gd p x = some r) : p ∧ x = some r := by
  by_cases hp : p
  · exact ⟨hp, by rwa [gd_pos hp] at h⟩
  · exfalso
    unfold gd at h
    split at h
    · contradiction
    · cases h
theorem ob_some {x : Option α} {f : α → Option β} {r : β} (h : ob x f = some r) : ∃ a, x = some a ∧ f a = some r := by
  unfold ob at h
  cases x with
  | none => cases h
  | some a => exact ⟨a, rfl, h⟩
end
/-! ### values -/
def Vl.flat : Vl → Bool
  | .non | .bl _ | .int _ | .str _ => true
  | _ => false
def Vl.mut : Vl → Bool
  | .lst _ | .dic _ => true
  | _ => false
def Vl.toV : Vl → L2.V
  | .non => .non
  | .bl b => .bl b
  | .int i => .int i
  | .str x => .str x
  | _ => .non
def scalV : Vl → Vl → Bool
  | .non, .non => true | .non, .int _ => true | .int _, .non => true | .non, .bl _ => true | .bl _, .non => true | .non, .str _ => true | .str _, .non => true
  | .int _, .int _ => true | .bl _, .bl _ => true | .str _, .str _ => true
  | .int _, .str _ => true | .str _, .int _ => true | .bl _, .str _ => true | .str _, .bl _ => true
  | _, _ => false
mutual
/-- as data -/
def vpd : Vl → Option PyData
  | .non => some .none
  | .bl b => some (.bool b)
  | .int i => some (.int i)
  | .str x => some (.str x)
  | .tup xs => (vpds xs).map .tuple
  | .lst xs => (vpds xs).map .list
  | _ => none
def vpds : List Vl → Option (List PyData)
  | [] => some []
  | x :: r => match vpd x, vpds r with
    | some p, some ps => some (p :: ps)
    | _, _ => none
end
mutual
/-- as data, dicts among it -/
def vpr : Vl → Option PyData
  | .non => some .none
  | .bl b => some (.bool b)
  | .int i => some (.int i)
  | .str x => some (.str x)
  | .tup xs => (vprs xs).map .tuple
  | .lst xs => (vprs xs).map .list
  | .dic kvs => (vprk kvs).map .dict
  | .scr _ => none
def vprs : List Vl → Option (List PyData)
  | [] => some []
  | x :: r => match vpr x, vprs r with
    | some p, some ps => some (p :: ps)
    | _, _ => none
def vprk : List (L2.Key × Vl) → Option (List (PyData × PyData))
  | [] => some []
  | (k, x) :: r => match vpr x, vprk r with
    | some p, some ps => some ((keyP k, p) :: ps)
    | _, _ => none
end
noncomputable def vEq (x y : Vl) : Option Bool := cnd (scalV x y) (some (decide (x.toV = y.toV))) (ob (vpd x) fun p => ob (vpd y) fun q => gd (SeqAt.shaped p = true ∧ SeqAt.shaped q = true) (some (PyData.eqv p q)))
noncomputable def vAdd : Vl → Vl → Option Vl
  | .int i, .int j => some (.int (i + j))
  | .str u, .str v => gd (u.length + v.length ≤ sizeLine) (some (.str (u ++ v)))
  | .tup u, .tup v => gd (u.length + v.length ≤ sizeLine) (some (.tup (u ++ v)))
  | .lst u, .lst v => gd (u.length + v.length ≤ sizeLine) (some (.lst (u ++ v)))
  | _, _ => none
noncomputable def vMul : Vl → Vl → Option Vl
  | .int i, .int j => gd (i.natAbs.log2 + j.natAbs.log2 < 1000000 ∨ L2.CMul i j) (some (.int (i * j)))
  | .tup u, .int k => cnd (decide (k = 1)) (some (.tup u)) (cnd (decide (k = 0)) (gd (u ≠ []) (some (.tup []))) (gd (u ≠ [] ∧ 2 ≤ k ∧ k ≤ 1000 ∧ u.length ≤ 1000) (some (.tup (List.replicate k.toNat u).flatten))))
  | .lst u, .int k => gd (-(2 ^ 63) ≤ k ∧ k < 2 ^ 63 ∧ u.length * k.toNat ≤ sizeLine) (some (.lst (List.replicate k.toNat u).flatten))
  | _, _ => none
noncomputable def vBin (o : Operator) (x y : Vl) : Option Vl := match o with
  | .Add => vAdd x y
  | .Mult => vMul x y
  | .Sub => match x, y with
    | .int i, .int j => some (.int (i - j))
    | _, _ => none
  | .Mod => match x, y with
    | .int i, .int j => gd (0 < j) (some (.int (i % j)))
    | _, _ => none
  | .FloorDiv => match x, y with
    | .int i, .int j => gd (0 < j ∧ j.natAbs.log2 < 9000) (some (.int (i / j)))
    | _, _ => none
  | .Pow => match x, y with
    | .int i, .int j => gd (0 ≤ j ∧ j ≤ 1000000 ∧ i.natAbs < 2 ^ 64) (some (.int (i ^ j.toNat)))
    | _, _ => none
  | _ => none
def keyV : Vl → Option L2.Key
  | .int i => some (.inl i)
  | .str x => some (.inr x)
  | _ => none
def kVl : L2.Key → Vl
  | .inl i => .int i
  | .inr x => .str x
def getV (kvs : List (L2.Key × Vl)) (k : L2.Key) : Option Vl := (kvs.find? fun kv => decide (kv.1 = k)).map (·.2)
def putV (kvs : List (L2.Key × Vl)) (k : L2.Key) (v : Vl) : List (L2.Key × Vl) :=
  if (kvs.any fun kv => decide (kv.1 = k)) = true then kvs.map (fun kv => if kv.1 = k then (kv.1, v) else kv) else kvs ++ [(k, v)]
/-- pairs, laid out -/
def tupV : List Vl → Option (List Vl)
  | [] => some []
  | x :: r => match x, tupV r with
    | .tup [k, v], some l => some (k :: v :: l)
    | _, _ => none
def mergeV (kvs more : List (L2.Key × Vl)) : List (L2.Key × Vl) := more.foldl (fun acc kv => putV acc kv.1 kv.2) kvs
def pairsV : List Vl → Option (List (L2.Key × Vl))
  | [] => some []
  | k :: v :: r => match keyV k, pairsV r with
    | some k, some ps => some ((k, v) :: ps)
    | _, _ => none
  | _ => none
def vGet (x k : Vl) : Option (Option Vl) := match x with
  | .dic kvs => (keyV k).map (getV kvs)
  | _ => none
noncomputable def vInL (x : Vl) (ys : List Vl) : Option Bool :=
  cnd (x.flat && ys.all Vl.flat) (some (ys.any fun y => L2.eqV y.toV x.toV)) (ob (vpd x) fun p => ob (vpds ys) fun ps => gd (SeqAt.shaped p = true ∧ SeqAt.shaped (.list ps) = true) (some (ps.any fun z => PyData.eqv z p)))
noncomputable def vIn (x y : Vl) : Option Bool := match y with
  | .str z => match x with
    | .str u => some (!(Builtin.Str.occurrences z u 0 z.length 1).isEmpty)
    | _ => none
  | .tup ys => cnd (x.flat && ys.all Vl.flat) (some (ys.any fun y => L2.eqV y.toV x.toV)) none
  | .lst ys => vInL x ys
  | .dic _ => (vGet y x).map Option.isSome
  | _ => none
noncomputable def vCmp (o : CmpOp) (x y : Vl) : Option Bool := match o with
  | .Eq => vEq x y
  | .NotEq => (vEq x y).map (!·)
  | .Lt => match x, y with
    | .int i, .int j => some (decide (i < j))
    | _, _ => none
  | .LtE => match x, y with
    | .int i, .int j => some (decide (i ≤ j))
    | _, _ => none
  | .Gt => match x, y with
    | .int i, .int j => some (decide (j < i))
    | _, _ => none
  | .GtE => match x, y with
    | .int i, .int j => some (decide (j ≤ i))
    | _, _ => none
  | .Is => match y with
    | .non => some (match x with | .non => true | _ => false)
    | _ => none
  | .IsNot => match y with
    | .non => some (match x with | .non => false | _ => true)
    | _ => none
  | .In => vIn x y
  | .NotIn => (vIn x y).map (!·)
noncomputable def vTru : Vl → Option Bool
  | .non => some false
  | .bl b => some b
  | .int i => some (i != 0)
  | .str u => gd (u.length ≤ sizeLine) (some ((u.length : Int) != 0))
  | .tup u => some (!u.isEmpty)
  | .scr u => some (!u.isEmpty)
  | .lst u => some (!u.isEmpty)
  | .dic _ => none
def vTy : Vl → String
  | .non => "NoneType"
  | .bl _ => "bool"
  | .int _ => "int"
  | .str _ => "str"
  | .tup _ => "tuple"
  | .scr _ => "list"
  | .lst _ => "list"
  | .dic _ => "dict"
def tyEq : Ty → Ty → Bool
  | .int, .int => true | .bool, .bool => true | .str, .str => true | .tuple, .tuple => true | .list, .list => true | .dict, .dict => true
  | _, _ => false
def vIsi (x : Vl) (t : Ty) : Bool := match x with
  | .non => false
  | .bl _ => tyEq t .bool || tyEq t .int
  | .int _ => tyEq t .int
  | .str _ => tyEq t .str
  | .tup _ => tyEq t .tuple
  | .scr _ => tyEq t .list
  | .lst _ => tyEq t .list
  | .dic _ => tyEq t .dict
noncomputable def vIx (x i : Vl) : Option Vl := match x with
  | .tup u => match i with
    | .int k => L2.atI u k
    | _ => none
  | .scr u => match i with
    | .int k => (L2.atI u k).map .int
    | _ => none
  | .str z => match i with
    | .int k => gd (z.length ≤ sizeLine) ((L2.atI z.cps.toList k).map fun c => .str ⟨#[c]⟩)
    | _ => none
  | .lst u => match i with
    | .int k => L2.atI u k
    | _ => none
  | .dic _ => (vGet x i).join
  | _ => none
def partV : List Vl → Option (Option Int)
  | [] => some none
  | [.int i] => some (some i)
  | _ => none
noncomputable def vSl (x : Vl) (i j : Option Int) : Option Vl := match x with
  | .tup u => some (.tup (cutD u i j))
  | .scr u => some (.lst ((cutD u i j).map .int))
  | .str z => gd (z.length ≤ sizeLine) (some (.str (L2.cutS z i j)))
  | .lst u => some (.lst (cutD u i j))
  | _ => none
def seqV : Vl → Option (List Vl)
  | .tup u => some u
  | .scr u => some (u.map .int)
  | .lst u => some u
  | _ => none
def walkV : Vl → Option (List Vl)
  | .dic kvs => some (kvs.map fun kv => kVl kv.1)
  | x => seqV x
def intsV : List Vl → Option (List Int)
  | [] => some []
  | .int i :: r => (intsV r).map (i :: ·)
  | _ :: _ => none
def blsV : List Vl → Option (List Bool)
  | [] => some []
  | .bl b :: r => (blsV r).map (b :: ·)
  | _ :: _ => none
def strsV : List Vl → Option (List Str)
  | [] => some []
  | .str b :: r => (strsV r).map (b :: ·)
  | _ :: _ => none
def maxI (ns : List Int) : Option Int := match ns with
  | [] => none
  | n :: r => some (r.foldl max n)
def minI (ns : List Int) : Option Int := match ns with
  | [] => none
  | n :: r => some (r.foldl min n)
def sortS (ns : List Str) : List Str := ns.mergeSort (fun a b => decide (a.cps.toList ≤ b.cps.toList))
def sortI (ns : List Int) : List Int := ns.mergeSort (fun a b => decide (a ≤ b))
noncomputable def vB (f : Bt) (xs : List Vl) : Option Vl := match f, xs with
  | .len, [.str z] => gd (z.length ≤ sizeLine) (some (.int z.length))
  | .len, [.tup u] => some (.int u.length)
  | .len, [.scr u] => some (.int u.length)
  | .len, [.lst u] => some (.int u.length)
  | .len, [.dic kvs] => some (.int kvs.length)
  | .int, [.int i] => some (.int i)
  | .int, [.bl b] => some (.int (if b then 1 else 0))
  | .abs, [.int i] => some (.int (if i < 0 then -i else i))
  | .str, [.int i] => gd (i.natAbs.log2 < 1920) (some (.str (toString i)))
  | .max, [.int i, .int j] => some (.int (if j > i then j else i))
  | .min, [.int i, .int j] => some (.int (if j < i then j else i))
  | .tuple, [x] => ob (seqV x) fun u => some (.tup u)
  | .list, [x] => ob (walkV x) fun u => some (.lst u)
  | .sorted, [.lst u] => match intsV u with
    | some ns => some (.lst ((sortI ns).map .int))
    | none => ob (strsV u) fun ws => gd (ws.length < 64) (some (.lst ((sortS ws).map .str)))
  | .sorted, [.dic kvs] => match intsV (kvs.map fun kv => kVl kv.1) with
    | some ns => gd (ns.length < 64) (some (.lst ((sortI ns).map .int)))
    | none => ob (strsV (kvs.map fun kv => kVl kv.1)) fun ws => gd (ws.length < 64) (some (.lst ((sortS ws).map .str)))
  | .dict, [.dic kvs] => some (.dic kvs)
  | .dict, [.lst u] => ob (tupV u) fun l => ob (pairsV l) fun ps => some (.dic (mergeV [] ps))
  | .sum, [.lst u] => ob (intsV u) fun ns => some (.int ns.sum)
  | .max, [.lst u] => ob (intsV u) fun ns => (maxI ns).map .int
  | .min, [.lst u] => ob (intsV u) fun ns => (minI ns).map .int
  | .any, [.lst u] => ob (blsV u) fun bs => some (.bl (bs.any id))
  | .all, [.lst u] => ob (blsV u) fun bs => some (.bl (bs.all id))
  | .repr, [x] => ob (vpr x) fun p => gd (p.showable = true ∧ p.depth ≤ 40 ∧ p.shown.length ≤ sizeLine) (some (.str p.shown))
  | _, _ => none
/-- a method that changes its list: what it gives, the list behind it -/
noncomputable def vMth (m : Mt) (x : Vl) (ys : List Vl) : Option (Vl × Vl) := match m, x, ys with
  | .append, .lst u, [y] => gd (u.length < sizeLine) (some (.non, .lst (u ++ [y])))
  | .extend, .lst u, [.lst v] => gd (u.length + v.length ≤ sizeLine) (some (.non, .lst (u ++ v)))
  | .pop, .lst u, [] => ob u[u.length - 1]? fun y => some (y, .lst u.dropLast)
  | _, _, _ => none
def isDic : Vl → Bool
  | .dic _ => true
  | _ => false
def isStrV : Vl → Bool
  | .str _ => true
  | _ => false
def mOk : Mt → Vl → Bool
  | .get, _ => false
  | _, .lst _ => true
  | _, _ => false
noncomputable def vIndex (x : Vl) (ys : List Vl) : Option Vl := match x, ys with
  | .lst u, [y] => cnd (y.flat && u.all Vl.flat) ((u.findIdx? fun z => L2.eqV z.toV y.toV).map fun j => .int (j : Nat))
      (ob (vpd y) fun p => ob (vpds u) fun ps => gd (SeqAt.shaped p = true ∧ SeqAt.shaped (.list ps) = true) ((ps.findIdx? fun q => PyData.eqv q p).map fun j => .int (j : Nat)))
  | _, _ => none
noncomputable def vSet (x i y : Vl) : Option Vl := match x, i with
  | .lst u, .int k => ob (L2.ixN u.length k) fun j => some (.lst (u.set j y))
  | .dic kvs, k => ob (keyV k) fun k => gd (kvs.length < sizeLine) (some (.dic (putV kvs k y)))
  | _, _ => none
def rgVl (lo hi : Int) : List Vl := (List.range (hi - lo).toNat).map fun (k : Nat) => Vl.int (lo + (k : Int))
noncomputable def vItems (k : Ik) (xs : List Vl) : Option (List Vl) := match k, xs with
  | .val, [.tup u] => some u
  | .val, [.scr u] => some (u.map .int)
  | .val, [.str z] => some (z.cps.toList.map fun c => .str ⟨#[c]⟩)
  | .val, [.lst u] => some u
  | .nam, [.tup u] => some u
  | .nam, [.scr u] => some (u.map .int)
  | .nam, [.str z] => some (z.cps.toList.map fun c => .str ⟨#[c]⟩)
  | .nam, [.lst u] => some u
  | .nam, [.dic kvs] => some (kvs.map fun kv => kVl kv.1)
  | .rng, [.int j] => gd (small j) (some (rgVl 0 j))
  | .rng, [.int i, .int j] => gd (small i ∧ small j) (some (rgVl i j))
  | .zip, [.tup u, .tup v] => some ((u.zip v).map fun p => .tup [p.1, p.2])
  | .zip, [.lst u, .lst v] => some ((u.zip v).map fun p => .tup [p.1, p.2])
  | _, _ => none
def vNeg : Vl → Option Vl
  | .int i => some (.int (-i))
  | _ => none
def vBool : Vl → Option Bool
  | .bl b => some b
  | _ => none
noncomputable def vRg (xs : List Vl) : Option (Int × Int) := match xs with
  | [.int j] => gd ((small 0 ∧ small j) ∧ (j - 0).toNat ≤ sizeLine) (some (0, j))
  | [.int i, .int j] => gd ((small i ∧ small j) ∧ (j - i).toNat ≤ sizeLine) (some (i, j))
  | _ => none
noncomputable def vLset : Vl → Option Vl
  | .lst u => cnd (intsV u).isSome (ob (intsV u) fun ns => gd (ns.length ≤ 4000) (some (.int (dedup ns).length))) (ob (strsV u) fun ws => gd (ws.length ≤ 4000) (some (.int (dedup ws).length)))
  | .tup u => ob (strsV u) fun ws => gd (ws.length ≤ 4000) (some (.int (dedup ws).length))
  | _ => none
def vMx (mx : Bool) (x y : Vl) : Option Vl := match x with
  | .lst u => ob (intsV u) fun ns => some (match (if mx then maxI ns else minI ns) with | some m => .int m | none => y)
  | _ => none
noncomputable def vZip (x y : Vl) : Option Vl := match x, y with
  | .tup u, .tup v => gd (u.length = v.length ∧ (u.zip v).length ≤ sizeLine) (some (.lst ((u.zip v).map fun p => .tup [p.1, p.2])))
  | _, _ => none
noncomputable def vJoin (x y : Vl) : Option Vl := match x with
  | .str z => ob (seqV y) fun u => ob (strsV u) fun ys => gd ((ys.map (·.length)).sum + ys.length * z.length ≤ 16777216) (some (.str (Txt.join z ys)))
  | _ => none
noncomputable def vFmt : Vl → Option Vl
  | .str y => gd (y.length ≤ sizeLine) (some (.str y))
  | .int i => gd (i.natAbs.log2 < 1920) (some (.str (toString i)))
  | _ => none
def vAug (o : Operator) (x y : Vl) : Option Vl := match o, x, y with
  | .Add, .int i, .int j => some (.int (i + j))
  | .Sub, .int i, .int j => some (.int (i - j))
  | _, _, _ => none
/-! ### slots -/
def slotE : E → Option Nat
  | .v i => some i
  | _ => none
def useV {β : Type} (κ : List Kd) (i : Nat) (env : Env) (k : Vl → Env → Option β) : Option β := match env[i]? with
  | some (some v) => match kat κ i with
    | .shr => k v env
    | .own => k v (env.set i none)
    | .io => none
    | .bor => none
  | _ => none
/-- what an expression holds, to be read at once -/
def pb {β : Type} (e : E) (other : List Kd → Env → (Vl → Env → Option β) → Option β) (κ : List Kd) (env : Env) (k : Vl → List Kd → Env → Option β) : Option β := match slotE e with
  | some i => match env[i]? with
    | some (some v) => k v (cnd (kat κ i).ow (κ.set i .bor) κ) env
    | _ => none
  | none => other κ env fun v env => k v κ env
/-- a slot that is changed -/
def chg {β : Type} (e : E) (κ : List Kd) (env : Env) (k : Nat → Vl → Option β) : Option β := match slotE e with
  | some i => match env[i]? with
    | some (some v) => cnd (kat κ i).ow (k i v) none
    | _ => none
  | none => none
def setAllV : List Nat → List Vl → Env → Env
  | i :: is, x :: xs, σ => setAllV is xs (σ.set i (some x))
  | _, _, σ => σ
def Tg.ixs : Tg → List Nat
  | .one i => [i]
  | .tup is => is
noncomputable def ptg {β : Type} (t : Tg) (x : Vl) (env : Env) (k : Env → Option β) : Option β := match t with
  | .one i => k (env.set i (some x))
  | .tup is => match x with
    | .tup xs => gd (xs.length = is.length) (k (setAllV is xs env))
    | _ => none
def wipeV (σ : Env) : List Nat → Env
  | [] => σ
  | v :: vs => (wipeV σ vs).set v none
/-- the slots of a scope as they were -/
def backV (e0 : Env) : List Nat → Env → Env
  | [], e => e
  | i :: is, e => (backV e0 is e).set i ((e0[i]?).join)
def tgOk (κ : List Kd) (t : Tg) : Bool := t.ixs.all fun i => kat κ i == .shr
def lcOk (κ : List Kd) (own : List Nat) (t : Tg) : Bool := (own.all fun i => kat κ i == .shr) && t.ixs.all fun i => own.contains i
/-- the arguments that were changed come back -/
def backs {β : Type} : List (Option Nat) → List (Option Vl) → Env → (Env → Option β) → Option β
  | some j :: js, some v :: vs, env, k => backs js vs (env.set j (some v)) k
  | none :: js, _ :: vs, env, k => backs js vs env k
  | [], _, env, k => k env
  | _, _, _, _ => none
noncomputable def plc {β : Type} (el : Vl → Env → (Option Vl → Env → Option β) → Option β) : List Vl → List Vl → Env → (List Vl → Env → Option β) → Option β
  | [], acc, env, k => k acc env
  | x :: xs, acc, env, k => el x env fun r env => match r with
    | some y => gd (acc.length < sizeLine) (plc el xs (acc ++ [y]) env k)
    | none => plc el xs acc env k
noncomputable def pdc {β : Type} (el : Vl → Env → (Option (Vl × Vl) → Env → Option β) → Option β) : List Vl → List (L2.Key × Vl) → Env → (List (L2.Key × Vl) → Env → Option β) → Option β
  | [], acc, env, k => k acc env
  | x :: xs, acc, env, k => el x env fun r env => match r with
    | some (kx, y) => ob (keyV kx) fun key => gd (acc.length < sizeLine) (pdc el xs (putV acc key y) env k)
    | none => pdc el xs acc env k
/-- what a new object is, or nothing to be held alone -/
def fresh (R : Str → Bool) (κ : List Kd) : E → Bool
  | .non | .bl _ | .int _ | .str _ | .tup _ => true
  | .lst _ | .dnew | .dlit _ | .lc _ _ _ _ _ _ | .dc _ _ _ _ _ _ _ | .lrg _ _ | .bin _ _ _ | .lzip _ _ | .sl _ _ _ => true
  | .blt _ _ => true
  | .v i => kat κ i == .own
  | .call f _ => R f
  | .ite _ a b => fresh R κ a && fresh R κ b
  | _ => false
mutual
noncomputable def pe (C : Cal) (P : Pr) : E → List Kd → Env → (Vl → Env → Option Rt) → Option Rt
  | .non, _, env, k => k .non env
  | .bl b, _, env, k => k (.bl b) env
  | .int i, _, env, k => k (.int i) env
  | .str x, _, env, k => k (.str x) env
  | .v i, κ, env, k => useV κ i env k
  | .g x, _, env, k => ob (P.G x) fun z => k (.str z) env
  | .tup es, κ, env, k => pes C P es κ env fun vs env => k (.tup vs) env
  | .lst es, κ, env, k => pes C P es κ env fun vs env => k (.lst vs) env
  | .dnew, _, env, k => k (.dic []) env
  | .bin o a b, κ, env, k => pb a (pe C P a) κ env fun x κ1 env => pb b (pe C P b) κ1 env fun y _ env => ob (vBin o x y) fun z => k z env
  | .neg a, κ, env, k => pe C P a κ env fun x env => ob (vNeg x) fun z => k z env
  | .not a, κ, env, k => pe C P a κ env fun x env => ob (vBool x) fun c => k (.bl (!c)) env
  | .and a b, κ, env, k => pe C P a κ env fun x env => ob (vBool x) fun c => cnd c (pe C P b κ env k) (k (.bl false) env)
  | .or a b, κ, env, k => pe C P a κ env fun x env => ob (vBool x) fun c => cnd c (k (.bl true) env) (pe C P b κ env k)
  | .tru a, κ, env, k => pb a (pe C P a) κ env fun x _ env => ob (vTru x) fun c => k (.bl c) env
  | .cmp o a b, κ, env, k => pb a (pe C P a) κ env fun x κ1 env => pb b (pe C P b) κ1 env fun y _ env => ob (vCmp o x y) fun c => k (.bl c) env
  | .cmp2 o p a b c, κ, env, k => pb a (pe C P a) κ env fun x κ1 env => pb b (pe C P b) κ1 env fun y κ2 env => ob (vCmp o x y) fun c1 =>
      cnd c1 (pb c (pe C P c) κ2 env fun z _ env => ob (vCmp p y z) fun c2 => k (.bl c2) env) (k (.bl false) env)
  | .ite c a b, κ, env, k => pe C P c κ env fun x env => ob (vBool x) fun t => cnd t (pe C P a κ env k) (pe C P b κ env k)
  | .call f es, κ, env, k => pargs C P es (P.K f) κ env fun vs js _ env => ob (C f vs) fun r => backs js r.2 env fun env => k r.1 env
  | .blt f es, κ, env, k => pbs C P es κ env fun vs _ env => ob (vB f vs) fun z => k z env
  | .isi a t, κ, env, k => pb a (pe C P a) κ env fun x _ env => k (.bl (vIsi x t)) env
  | .mth m o es, κ, env, k => cnd (decide (m = .index)) (pb o (pe C P o) κ env fun x κ1 env => cnd (mOk m x) (pes C P es κ1 env fun ys env => ob (vIndex x ys) fun z => k z env) none)
      (chg o κ env fun i x => cnd (mOk m x) (pes C P es (κ.set i .bor) env fun ys env => ob (env[i]?).join fun x => ob (vMth m x ys) fun r => k r.1 (env.set i (some r.2))) none)
  | .ix a i, κ, env, k => pb a (pe C P a) κ env fun x κ1 env => pb i (pe C P i) κ1 env fun y _ env => ob (vIx x y) fun z => k z env
  | .sl a lo hi, κ, env, k => pb a (pe C P a) κ env fun x κ1 env => pes C P lo κ1 env fun l env => ob (partV l) fun i => pes C P hi κ1 env fun h env => ob (partV h) fun j => ob (vSl x i j) fun z => k z env
  | .lc own t kk it c elt, κ, env, k => pbs C P it κ env fun xs κ1 env => ob (vItems kk xs) fun items => cnd (lcOk κ1 own t)
      (plc (fun x env K => ptg t x (wipeV env own) fun env2 => pe C P c κ1 env2 fun b env3 => ob (vBool b) fun b => cnd b (pe C P elt κ1 env3 fun y env4 => K (some y) (backV env own env4)) (K none (backV env own env3))) items [] env
        fun row env => k (.lst row) env) none
  | .dlit es, κ, env, k => pes C P es κ env fun vs env => ob (pairsV vs) fun ps => gd (ps.length ≤ 15) (k (.dic (mergeV [] ps)) env)
  | .dc own t kk it c kx vx, κ, env, k => pbs C P it κ env fun xs κ1 env => ob (vItems kk xs) fun items => cnd (lcOk κ1 own t)
      (pdc (fun x env K => ptg t x (wipeV env own) fun env2 => pe C P c κ1 env2 fun b env3 => ob (vBool b) fun b => cnd b (pe C P kx κ1 env3 fun y env4 => pe C P vx κ1 env4 fun z env5 => K (some (y, z)) (backV env own env5)) (K none (backV env own env3))) items [] env
        fun kvs env => k (.dic kvs) env) none
  | .dget o kx d, κ, env, k => pb o (pe C P o) κ env fun x κ1 env => cnd (isDic x) (pe C P kx κ1 env fun y env => pes C P d κ1 env fun ds env => ob (vGet x y) fun r => match ds with
      | [] => k (r.getD .non) env
      | [z] => k (r.getD z) env
      | _ => none) none
  | .dsd o kx d, κ, env, k => chg o κ env fun i x => cnd (isDic x) (pe C P kx (κ.set i .bor) env fun y env => pe C P d (κ.set i .bor) env fun z env => ob (env[i]?).join fun x => match x with
      | .dic kvs => ob (keyV y) fun key => gd (kvs.length < sizeLine) (match getV kvs key with
        | some v => k v env
        | none => k z (env.set i (some (.dic (putV kvs key z)))))
      | _ => none) none
  | .lrg tp es, κ, env, k => pes C P es κ env fun xs env => ob (vRg xs) fun ij => k (cnd tp (.tup (rgVl ij.1 ij.2)) (.lst (rgVl ij.1 ij.2))) env
  | .lset a, κ, env, k => pb a (pe C P a) κ env fun x _ env => ob (vLset x) fun z => k z env
  | .mxd mx a d, κ, env, k => pb a (pe C P a) κ env fun x κ1 env => pe C P d κ1 env fun y env => ob (vMx mx x y) fun z => k z env
  | .lzip a b, κ, env, k => pb a (pe C P a) κ env fun x κ1 env => pb b (pe C P b) κ1 env fun y _ env => ob (vZip x y) fun z => k z env
  | .join s a, κ, env, k => pe C P s κ env fun x env => cnd (isStrV x) (pb a (pe C P a) κ env fun y _ env => ob (vJoin x y) fun z => k z env) none
  | .fst es, κ, env, k => pjs C P es ⟨#[]⟩ κ env fun z env => k (.str z) env
  | .fmt e, κ, env, k => pe C P e κ env fun x env => ob (vFmt x) fun z => k z env
noncomputable def pes (C : Cal) (P : Pr) : List E → List Kd → Env → (List Vl → Env → Option Rt) → Option Rt
  | [], _, env, k => k [] env
  | e :: es, κ, env, k => pe C P e κ env fun v env => pes C P es κ env fun vs env => k (v :: vs) env
noncomputable def pbs (C : Cal) (P : Pr) : List E → List Kd → Env → (List Vl → List Kd → Env → Option Rt) → Option Rt
  | [], κ, env, k => k [] κ env
  | e :: es, κ, env, k => pb e (pe C P e) κ env fun v κ1 env => pbs C P es κ1 env fun vs κ2 env => k (v :: vs) κ2 env
noncomputable def pargs (C : Cal) (P : Pr) : List E → List Kd → List Kd → Env → (List Vl → List (Option Nat) → List Kd → Env → Option Rt) → Option Rt
  | [], _, κ, env, k => k [] [] κ env
  | e :: es, ks, κ, env, k => match kat ks 0 with
    | .bor => pb e (pe C P e) κ env fun v κ1 env => pargs C P es (ks.drop 1) κ1 env fun vs js κe env => k (v :: vs) (none :: js) κe env
    | .io => match slotE e with
      | some i => chg e κ env fun _ _ => pargs C P es (ks.drop 1) κ env fun vs js κe env => cnd (kat κe i).ow (ob (env[i]?).join fun v => k (v :: vs) (some i :: js) κe (env.set i none)) none
      | none => cnd (fresh P.R κ e) (pe C P e κ env fun v env => cnd v.mut (pargs C P es (ks.drop 1) κ env fun vs js κe env => k (v :: vs) (none :: js) κe env) none) none
    | .shr => pe C P e κ env fun v env => pargs C P es (ks.drop 1) κ env fun vs js κe env => k (v :: vs) (none :: js) κe env
    | .own => none
noncomputable def pjs (C : Cal) (P : Pr) : List E → Str → List Kd → Env → (Str → Env → Option Rt) → Option Rt
  | [], acc, _, env, k => k acc env
  | e :: es, acc, κ, env, k => pe C P e κ env fun x env => match x with
    | .str y => gd ((acc ++ y).length ≤ sizeLine) (pjs C P es (acc ++ y) κ env k)
    | _ => none
end
/-! ### statements -/
structure Nd where
  nx : Env → Option Rt
  rt : Vl → Env → Option Rt
  bk : Env → Option Rt := fun _ => none
  ct : Env → Option Rt := fun _ => none
def pfor (body : Vl → Env → Nd → Option Rt) : List Vl → Env → Nd → Option Rt
  | [], env, N => N.nx env
  | x :: xs, env, N => body x env { N with nx := fun env => pfor body xs env N, ct := fun env => pfor body xs env N, bk := N.nx }
def pwh (test : Env → (Bool → Env → Option Rt) → Option Rt) (body : Env → Nd → Option Rt) : Nat → Env → Nd → Option Rt
  | 0, _, _ => none
  | n + 1, env, N => test env fun b env => cnd b (body env { N with nx := fun env => pwh test body n env N, ct := fun env => pwh test body n env N, bk := N.nx }) (N.nx env)
/-- more turns than any while of the program takes -/
noncomputable def WF : Nat := Classical.choose (⟨1000000, rfl⟩ : ∃ n : Nat, n = 1000000)
theorem WF_eq : WF = 1000000 := Classical.choose_spec (⟨1000000, rfl⟩ : ∃ n : Nat, n = 1000000)
mutual
noncomputable def ps (C : Cal) (P : Pr) (fr : Bool) : Sm → List Kd → Env → Nd → Option Rt
  | .asg t e, κ, env, N => match t with
    | .one i => match kat κ i with
      | .shr => pe C P e κ env fun v env => N.nx (env.set i (some v))
      | .own => cnd (fresh P.R κ e) (pe C P e κ env fun v env => N.nx (env.set i (some v))) none
      | _ => none
    | .tup is => cnd (tgOk κ (.tup is)) (pe C P e κ env fun v env => ptg (.tup is) v env N.nx) none
  | .set o i e, κ, env, N => pe C P e κ env fun v env => chg o κ env fun j x0 => cnd x0.mut (pb i (pe C P i) (κ.set j .bor) env fun y _ env => ob (env[j]?).join fun x => ob (vSet x y v) fun x' => N.nx (env.set j (some x'))) none
  | .aug i o e, κ, env, N => cnd (kat κ i == .shr) (ob (env[i]?).join fun x => pe C P e κ env fun y env => ob (vAug o x y) fun z => N.nx (env.set i (some z))) none
  | .ex e, κ, env, N => pe C P e κ env fun _ env => N.nx env
  | .ret e, κ, env, N => cnd (!fr || fresh P.R κ e) (pe C P e κ env N.rt) none
  | .retN, _, env, N => N.rt .non env
  | .ite c a b, κ, env, N => pe C P c κ env fun x env => ob (vBool x) fun t => cnd t (pk C P fr a κ env N) (pk C P fr b κ env N)
  | .loop t kk it b, κ, env, N => pbs C P it κ env fun xs κ1 env => ob (vItems kk xs) fun items => cnd (tgOk κ1 t) (pfor (fun x env N => ptg t x env fun env => pk C P fr b κ1 env N) items env N) none
  | .whl c b, κ, env, N => pwh (fun env k => pe C P c κ env fun x env => ob (vBool x) fun t => k t env) (fun env N => pk C P fr b κ env N) WF env N
  | .brk, _, env, N => N.bk env
  | .cnt, _, env, N => N.ct env
  | .pass, _, env, N => N.nx env
  | .raise _ _, _, _, _ => none
noncomputable def pk (C : Cal) (P : Pr) (fr : Bool) : List Sm → List Kd → Env → Nd → Option Rt
  | [], _, env, N => N.nx env
  | s :: r, κ, env, N => ps C P fr s κ env { N with nx := fun env => pk C P fr r κ env N }
end
def startV (n : Nat) (vs : List Vl) : Env := vs.map some ++ List.replicate (n - vs.length) none
noncomputable def pcall (P : Pr) : Nat → Cal
  | 0 => fun _ _ => none
  | n + 1 => fun f vs => ob (P.F f) fun fn => gd (vs.length = fn.ps) (pk (pcall P n) P (P.R f) fn.body (P.K f) (startV fn.n vs) { nx := fun env => some (.non, env.take fn.ps), rt := fun v env => some (v, env.take fn.ps) })
/-! ### what is asked of the kinds -/
structure Wf (P : Pr) : Prop where
  par : ∀ f fn, P.F f = some fn → ∀ i, kat (P.K f) i = .own → fn.ps ≤ i
  loc : ∀ f fn, P.F f = some fn → ∀ i, kat (P.K f) i = .io → i < fn.ps
end Mp

namespace Mp
open PySem

/-! ## values and the store -/
mutual
inductive Rp (S : Sto) (U : Addr → Prop) : Vl → D → Prop
  | non : Rp S U .non .non
  | bl (b : Bool) : Rp S U (.bl b) (.bl b)
  | int (i : Int) : Rp S U (.int i) (.int i)
  | str (x : Str) : Rp S U (.str x) (.str x)
  | tup {vs : List Vl} {ds : List D} : Rps S U vs ds → Rp S U (.tup vs) (.tup ds)
  | scr (ns : List Int) : Rp S U (.scr ns) (.scr ns)
  | lst {a : Addr} {vs : List Vl} {ds : List D} : ¬ U a → S a = some (.lst ds) → Rps S U vs ds → Rp S U (.lst vs) (.ref a)
  | dic {a : Addr} {kv : List (L2.Key × Vl)} {kd : List (L2.Key × D)} : ¬ U a → (S a = some (.dic kd) ∨ S a = some (.lck kd)) → Rpk S U kv kd → Rp S U (.dic kv) (.ref a)
inductive Rps (S : Sto) (U : Addr → Prop) : List Vl → List D → Prop
  | nil : Rps S U [] []
  | cons {v : Vl} {d : D} {vs : List Vl} {ds : List D} : Rp S U v d → Rps S U vs ds → Rps S U (v :: vs) (d :: ds)
inductive Rpk (S : Sto) (U : Addr → Prop) : List (L2.Key × Vl) → List (L2.Key × D) → Prop
  | nil : Rpk S U [] []
  | cons {k : L2.Key} {v : Vl} {d : D} {vs : List (L2.Key × Vl)} {ds : List (L2.Key × D)} : Rp S U v d → Rpk S U vs ds → Rpk S U ((k, v) :: vs) ((k, d) :: ds)
end
/-- what stands at an address that is held alone -/
inductive Ow (S : Sto) (U : Addr → Prop) : Vl → Addr → Prop
  | lst {a : Addr} {vs : List Vl} {ds : List D} : S a = some (.lst ds) → Rps S U vs ds → Ow S U (.lst vs) a
  | dic {a : Addr} {kv : List (L2.Key × Vl)} {kd : List (L2.Key × D)} : (S a = some (.dic kd) ∨ S a = some (.lck kd)) → Rpk S U kv kd → Ow S U (.dic kv) a
def Own (S : Sto) (U : Addr → Prop) (v : Vl) (d : D) : Prop := ∃ a, d = .ref a ∧ U a ∧ Ow S U v a
/-- .. and not locked -/
def Owx (S : Sto) (U : Addr → Prop) (v : Vl) (d : D) : Prop := (Own S U v d ∧ ∀ a kd, d = .ref a → S a ≠ some (.lck kd)) ∨ (v.mut = false ∧ Rp S U v d)
/-- to be read -/
def Bw (S : Sto) (U : Addr → Prop) (v : Vl) (d : D) : Prop := Rp S U v d ∨ Own S U v d
inductive Bws (S : Sto) (U : Addr → Prop) : List Vl → List D → Prop
  | nil : Bws S U [] []
  | cons {v : Vl} {d : D} {vs : List Vl} {ds : List D} : Bw S U v d → Bws S U vs ds → Bws S U (v :: vs) (d :: ds)
structure Fm (P : Addr → Prop) (S : Sto) (U : Addr → Prop) (S' : Sto) (U' : Addr → Prop) : Prop where
  keep : ∀ b, S b ≠ none → ¬ P b → S' b = S b
  alive : ∀ b, S b ≠ none → S' b ≠ none
  back : ∀ b, U' b → U b ∨ S b = none
  fwd : ∀ b, U b → ¬ P b → U' b
def SlotR (κ : Kd) (S : Sto) (U : Addr → Prop) (v : Vl) (d : D) : Prop := match κ with
  | .shr => Rp S U v d
  | .bor => Bw S U v d
  | _ => Owx S U v d
structure Inv (κ : List Kd) (env : Env) (σ : Sl) (S : Sto) (U : Addr → Prop) : Prop where
  len : env.length = σ.length
  dom : ∀ a, U a → S a ≠ none
  rel : ∀ i v, env[i]? = some (some v) → ∃ d, σ[i]? = some (some d) ∧ SlotR (kat κ i) S U v d
  dis : ∀ i j v w, (kat κ i).ow = true → kat κ j ≠ .shr → i ≠ j → env[i]? = some (some v) → env[j]? = some (some w) → ∀ a, σ[i]? = some (some (.ref a)) → σ[j]? ≠ some (some (.ref a))
  dio : ∀ i j v a, (kat κ i).ow = true → kat κ j = .io → i ≠ j → env[i]? = some (some v) → σ[i]? = some (some (.ref a)) → σ[j]? ≠ some (some (.ref a))
  alv : ∀ j a, kat κ j = .io → σ[j]? = some (some (.ref a)) → S a ≠ none
def Ad (κ : List Kd) (env : Env) (σ : Sl) (a : Addr) : Prop := ∃ i v, (kat κ i).ow = true ∧ env[i]? = some (some v) ∧ σ[i]? = some (some (.ref a))
structure Mo (κ : List Kd) (env env' : Env) : Prop where
  len : env'.length = env.length
  same : ∀ i, (kat κ i).ow = false → env'[i]? = env[i]?
  less : ∀ (i : Nat) (w : Vl), env'[i]? = some (some w) → ∃ v : Vl, env[i]? = some (some v)
/-- held alone, by nobody yet -/
def Uq (κ : List Kd) (env : Env) (σ : Sl) (S0 : Sto) (P : Addr → Prop) (S : Sto) (U : Addr → Prop) (v : Vl) (d : D) : Prop :=
  ∃ a, d = .ref a ∧ U a ∧ Ow S U v a ∧ (S0 a = none ∨ P a) ∧ (∀ i w, env[i]? = some (some w) → kat κ i ≠ .shr → σ[i]? ≠ some (some (.ref a))) ∧ (∀ j, kat κ j = .io → σ[j]? ≠ some (some (.ref a))) ∧ ∀ kd, S a ≠ some (.lck kd)
def Res (κ : List Kd) (fr : Bool) (env : Env) (σ : Sl) (S0 : Sto) (P : Addr → Prop) (S : Sto) (U : Addr → Prop) (v : Vl) (d : D) : Prop :=
  (Rp S U v d ∧ (fr = true → v.mut = false)) ∨ Uq κ env σ S0 P S U v d

section
variable {S S' S1 S2 : Sto} {U U' U1 U2 : Addr → Prop} {P P1 : Addr → Prop} {κ : List Kd} {env env' env1 env2 : Env} {σ σ' : Sl} {v w : Vl} {d e : D}
theorem Fm.refl : Fm P S U S U := ⟨fun _ _ _ => rfl, fun _ h => h, fun _ h => .inl h, fun _ h _ => h⟩
theorem Fm.trans (hU : ∀ b, U b → S b ≠ none) (hP : ∀ b, P1 b → P b ∨ S b = none) (f : Fm P S U S1 U1) (g : Fm P1 S1 U1 S2 U2) : Fm P S U S2 U2 := by
  refine ⟨fun b h n => ?_, fun b h => g.alive b (f.alive b h), fun b h => ?_, fun b h n => ?_⟩
  · have n1 : ¬ P1 b := fun z => (hP b z).elim n h
    rw [g.keep b (f.alive b h) n1, f.keep b h n]
  · rcases g.back b h with z | z
    · exact f.back b z
    · refine .inr (Classical.byContradiction fun c => f.alive b c z)
  · exact g.fwd b (f.fwd b h n) fun z => (hP b z).elim n (hU b h)
theorem Fm.wide (f : Fm P S U S' U') (h : ∀ b, P b → P1 b) : Fm P1 S U S' U' := ⟨fun b x n => f.keep b x fun z => n (h b z), f.alive, f.back, fun b x n => f.fwd b x fun z => n (h b z)⟩
mutual
/-- what is shared stays, where only what is held alone changes -/
theorem Rp.fm (f : Fm P S U S' U') (hP : ∀ b, P b → U b) : ∀ {v : Vl} {d : D}, Rp S U v d → Rp S' U' v d
  | _, _, .non => .non
  | _, _, .bl b => .bl b
  | _, _, .int i => .int i
  | _, _, .str x => .str x
  | _, _, .tup h => .tup (Rps.fm f hP h)
  | _, _, .scr ns => .scr ns
  | _, _, .lst (a := a) n e h => by
    refine .lst (fun z => ?_) ((f.keep a (by rw [e]; simp) fun z => n (hP a z)).trans e) (Rps.fm f hP h)
    rcases f.back a z with z | z
    · exact n z
    · rw [e] at z; cases z
  | _, _, .dic (a := a) n e h => by
    have al : S a ≠ none := by rcases e with e | e <;> rw [e] <;> simp
    refine .dic (fun z => ?_) ?_ (Rpk.fm f hP h)
    · rcases f.back a z with z | z
      · exact n z
      · exact al z
    · rw [f.keep a al fun z => n (hP a z)]; exact e
theorem Rps.fm (f : Fm P S U S' U') (hP : ∀ b, P b → U b) : ∀ {v : List Vl} {d : List D}, Rps S U v d → Rps S' U' v d
  | _, _, .nil => .nil
  | _, _, .cons a b => .cons (Rp.fm f hP a) (Rps.fm f hP b)
theorem Rpk.fm (f : Fm P S U S' U') (hP : ∀ b, P b → U b) : ∀ {v : List (L2.Key × Vl)} {d : List (L2.Key × D)}, Rpk S U v d → Rpk S' U' v d
  | _, _, .nil => .nil
  | _, _, .cons a b => .cons (Rp.fm f hP a) (Rpk.fm f hP b)
end
theorem Ow.fm (f : Fm P S U S' U') (hP : ∀ b, P b → U b) {a : Addr} (n : ¬ P a) (h : Ow S U v a) : Ow S' U' v a := by
  cases h with
  | lst e r => exact .lst ((f.keep a (by rw [e]; simp) n).trans e) (r.fm f hP)
  | dic e r =>
    have al : S a ≠ none := by rcases e with e | e <;> rw [e] <;> simp
    exact .dic (by rw [f.keep a al n]; exact e) (r.fm f hP)
theorem Own.fm (f : Fm P S U S' U') (hP : ∀ b, P b → U b) (n : ∀ a, d = .ref a → ¬ P a) (h : Own S U v d) : Own S' U' v d := by
  obtain ⟨a, rfl, u, o⟩ := h
  exact ⟨a, rfl, f.fwd a u (n a rfl), o.fm f hP (n a rfl)⟩
theorem Owx.fm (f : Fm P S U S' U') (hP : ∀ b, P b → U b) (n : ∀ a, d = .ref a → ¬ P a) (h : Owx S U v d) : Owx S' U' v d := by
  rcases h with h | ⟨m, r⟩
  case inr => exact .inr ⟨m, r.fm f hP⟩
  refine .inl ⟨h.1.fm f hP n, fun a kd e => ?_⟩
  obtain ⟨b, e2, u, o⟩ := h.1
  rw [e] at e2; cases e2
  have al : S a ≠ none := by
    cases o with
    | lst z _ => rw [z]; simp
    | dic z _ => rcases z with z | z <;> rw [z] <;> simp
  rw [f.keep a al (n a e)]
  exact h.2 a kd e
theorem Rp.nref (m : v.mut = false) (h : Rp S U v d) (a : Addr) : d ≠ .ref a := by
  cases h with
  | lst _ _ _ => cases m
  | dic _ _ _ => cases m
  | _ => exact fun e => nomatch e
theorem Owx.bw (h : Owx S U v d) : Bw S U v d := by
  rcases h with h | h
  · exact .inr h.1
  · exact .inl h.2
theorem Owx.ref {a : Addr} (h : Owx S U v (.ref a)) : Own S U v (.ref a) ∧ ∀ kd, S a ≠ some (.lck kd) := by
  rcases h with h | ⟨m, r⟩
  · exact ⟨h.1, fun kd => h.2 a kd rfl⟩
  · exact absurd rfl (Rp.nref m r a)
theorem Owx.own (m : v.mut = true) (h : Owx S U v d) : Own S U v d ∧ ∀ a kd, d = .ref a → S a ≠ some (.lck kd) := by
  rcases h with h | ⟨m2, r⟩
  · exact h
  · rw [m] at m2; cases m2
theorem Bw.fm (f : Fm P S U S' U') (hP : ∀ b, P b → U b) (n : ∀ a, d = .ref a → ¬ P a) (h : Bw S U v d) : Bw S' U' v d := h.imp (fun r => r.fm f hP) fun o => o.fm f hP n
mutual
theorem Rp.less (h : ∀ b, U' b → U b) : ∀ {v : Vl} {d : D}, Rp S U v d → Rp S U' v d
  | _, _, .non => .non
  | _, _, .bl b => .bl b
  | _, _, .int i => .int i
  | _, _, .str x => .str x
  | _, _, .tup r => .tup (Rps.less h r)
  | _, _, .scr ns => .scr ns
  | _, _, .lst n e r => .lst (fun z => n (h _ z)) e (Rps.less h r)
  | _, _, .dic n e r => .dic (fun z => n (h _ z)) e (Rpk.less h r)
theorem Rps.less (h : ∀ b, U' b → U b) : ∀ {v : List Vl} {d : List D}, Rps S U v d → Rps S U' v d
  | _, _, .nil => .nil
  | _, _, .cons a b => .cons (Rp.less h a) (Rps.less h b)
theorem Rpk.less (h : ∀ b, U' b → U b) : ∀ {v : List (L2.Key × Vl)} {d : List (L2.Key × D)}, Rpk S U v d → Rpk S U' v d
  | _, _, .nil => .nil
  | _, _, .cons a b => .cons (Rp.less h a) (Rpk.less h b)
end
theorem Ow.less (h : ∀ b, U' b → U b) {a : Addr} (o : Ow S U v a) : Ow S U' v a := by
  cases o with
  | lst e r => exact .lst e (r.less h)
  | dic e r => exact .dic e (r.less h)
theorem SlotR.fm (f : Fm P S U S' U') (hP : ∀ b, P b → U b) {c : Kd} (n : c ≠ .shr → ∀ a, d = .ref a → ¬ P a) (h : SlotR c S U v d) : SlotR c S' U' v d := by
  cases c with
  | shr => exact Rp.fm f hP h
  | bor => exact Bw.fm f hP (n (by decide)) h
  | own => exact Owx.fm f hP (n (by decide)) h
  | io => exact Owx.fm f hP (n (by decide)) h
theorem ow_ne {c : Kd} (h : c.ow = true) : c ≠ .shr ∧ c ≠ .bor := by cases c <;> simp [Kd.ow] at h <;> simp
theorem own_of {c : Kd} (h : c.ow = true) : SlotR c S U v d = Owx S U v d := by cases c <;> simp [Kd.ow] at h <;> rfl
theorem Inv.ad (i : Inv κ env σ S U) {a : Addr} (h : Ad κ env σ a) : U a := by
  obtain ⟨j, v, h1, h2, h3⟩ := h
  obtain ⟨d, h4, h5⟩ := i.rel j v h2
  rw [own_of h1] at h5
  rw [h3] at h4
  have h4 := Option.some.inj (Option.some.inj h4)
  subst h4
  obtain ⟨b, e, u, _⟩ := h5.ref.1
  cases e; exact u
theorem Mo.refl : Mo κ env env := ⟨rfl, fun _ _ => rfl, fun i w h => ⟨w, h⟩⟩
theorem Mo.trans (a : Mo κ env env1) (b : Mo κ env1 env2) : Mo κ env env2 := ⟨b.len.trans a.len, fun i h => (b.same i h).trans (a.same i h), fun i w h => let ⟨v, z⟩ := b.less i w h; a.less i v z⟩
theorem Mo.ad (m : Mo κ env env') {a : Addr} (h : Ad κ env' σ a) : Ad κ env σ a := by
  obtain ⟨i, v, h1, h2, h3⟩ := h
  obtain ⟨w, z⟩ := m.less i v h2
  exact ⟨i, w, h1, z, h3⟩
/-- a value is shared from now on -/
theorem Res.share {fr : Bool} (i : Inv κ env' σ S' U') (f : Fm P S U S' U') (hU : ∀ b, U b → S b ≠ none) (h : Res κ fr env' σ S P S' U' v d) : ∃ U2, Inv κ env' σ S' U2 ∧ Fm P S U S' U2 ∧ Rp S' U2 v d := by
  rcases h with ⟨h, _⟩ | ⟨a, rfl, u, o, nw, no, nio, nl⟩
  · exact ⟨U', i, f, h⟩
  · refine ⟨fun b => U' b ∧ b ≠ a, ?_, ⟨f.keep, f.alive, fun b h => f.back b h.1, fun b h n => ⟨f.fwd b h n, fun e => ?_⟩⟩, ?_⟩
    · refine ⟨i.len, fun b h => i.dom b h.1, fun j w h => ?_, i.dis, i.dio, i.alv⟩
      obtain ⟨d, h1, h2⟩ := i.rel j w h
      refine ⟨d, h1, ?_⟩
      have ne : kat κ j ≠ .shr → ∀ b, d = .ref b → b ≠ a := fun hk b e c => by
        subst e c; exact no j w h hk h1
      have le : ∀ b, (U' b ∧ b ≠ a) → U' b := fun b z => z.1
      have ow : ∀ {x : D}, x = d → kat κ j ≠ .shr → Own S' U' w x → Own S' (fun b => U' b ∧ b ≠ a) w x := fun {x} ex hk ⟨b, e, ub, ob⟩ => ⟨b, e, ⟨ub, ne hk b (ex ▸ e)⟩, ob.less le⟩
      cases hk : kat κ j with
      | shr => rw [hk] at h2; exact Rp.less le h2
      | bor => rw [hk] at h2; exact Or.imp (Rp.less le) (ow rfl (by rw [hk]; decide)) h2
      | own => rw [hk] at h2; exact Or.imp (fun h2 => ⟨ow rfl (by rw [hk]; decide) h2.1, h2.2⟩) (fun h2 => ⟨h2.1, Rp.less le h2.2⟩) h2
      | io => rw [hk] at h2; exact Or.imp (fun h2 => ⟨ow rfl (by rw [hk]; decide) h2.1, h2.2⟩) (fun h2 => ⟨h2.1, Rp.less le h2.2⟩) h2
    · subst e
      rcases nw with z | z
      · exact hU b h z
      · exact n z
    · cases o with
      | lst e r => exact .lst (fun z => z.2 rfl) e (r.less fun b z => z.1)
      | dic e r => exact .dic (fun z => z.2 rfl) e (r.less fun b z => z.1)
/-- the environment is the same, the store is further -/
theorem Inv.fm (i : Inv κ env σ S U) (f : Fm P S U S' U') (hU : ∀ a, U' a → S' a ≠ none) (hP : ∀ b, P b → U b) (n : ∀ j w b, env[j]? = some (some w) → kat κ j ≠ .shr → σ[j]? = some (some (.ref b)) → ¬ P b) : Inv κ env σ S' U' := by
  refine ⟨i.len, hU, fun j w h => ?_, i.dis, i.dio, fun j a hk h => f.alive a (i.alv j a hk h)⟩
  obtain ⟨d, h1, h2⟩ := i.rel j w h
  exact ⟨d, h1, SlotR.fm f hP (fun hk b e => n j w b h hk (e ▸ h1)) h2⟩
/-! ### data -/
mutual
theorem Rp.pd : ∀ {v : Vl} {d : D} {p : PyData}, Rp S U v d → vpd v = some p → Pd S d p
  | _, _, _, .non, e => by cases e; exact .non
  | _, _, _, .bl b, e => by cases e; exact .bl b
  | _, _, _, .int i, e => by cases e; exact .int i
  | _, _, _, .str x, e => by cases e; exact .str x
  | _, _, _, .tup (vs := vs) r, e => by
    unfold vpd at e
    cases h : vpds vs with
    | none => rw [h] at e; cases e
    | some ps => rw [h] at e; cases e; exact .tup (Rps.pd r h)
  | _, _, _, .scr ns, e => by cases e
  | _, _, _, .lst (vs := vs) n z r, e => by
    unfold vpd at e
    cases h : vpds vs with
    | none => rw [h] at e; cases e
    | some ps => rw [h] at e; cases e; exact .lst z (Rps.pd r h)
  | _, _, _, .dic _ _ _, e => by cases e
theorem Rps.pd : ∀ {v : List Vl} {d : List D} {p : List PyData}, Rps S U v d → vpds v = some p → Pds S d p
  | _, _, _, .nil, e => by cases e; exact .nil
  | _, _, _, .cons (v := v) (vs := vs) a b, e => by
    unfold vpds at e
    split at e
    · rename_i p ps h1 h2
      cases e
      exact .cons (Rp.pd a h1) (Rps.pd b h2)
    · cases e
end
theorem Bw.pd {p : PyData} (h : Bw S U v d) (e : vpd v = some p) : Pd S d p := by
  rcases h with h | ⟨a, rfl, _, o⟩
  · exact h.pd e
  · cases o with
    | lst z r =>
      rename_i vs ds
      unfold vpd at e
      cases h : vpds vs with
      | none => rw [h] at e; cases e
      | some ps => rw [h] at e; cases e; exact .lst z (r.pd h)
    | dic _ _ => cases e
end
mutual
theorem Rp.pr : ∀ {v : Vl} {d : D} {p : PyData}, Rp S U v d → vpr v = some p → Psh S d p
  | _, _, _, .non, e => by cases e; exact .non
  | _, _, _, .bl b, e => by cases e; exact .bl b
  | _, _, _, .int i, e => by cases e; exact .int i
  | _, _, _, .str x, e => by cases e; exact .str x
  | _, _, _, .tup (vs := vs) r, e => by
    unfold vpr at e
    cases h : vprs vs with
    | none => rw [h] at e; cases e
    | some ps => rw [h] at e; cases e; exact .tup (Rps.pr r h)
  | _, _, _, .scr ns, e => by cases e
  | _, _, _, .lst (vs := vs) n z r, e => by
    unfold vpr at e
    cases h : vprs vs with
    | none => rw [h] at e; cases e
    | some ps => rw [h] at e; cases e; exact .lst z (Rps.pr r h)
  | _, _, _, .dic (kv := kv) n z r, e => by
    unfold vpr at e
    cases h : vprk kv with
    | none => rw [h] at e; cases e
    | some ps =>
      rw [h] at e; cases e
      obtain ⟨qs, h1, h2⟩ := Rpk.pr r h
      rw [h2]
      exact .dic z h1
theorem Rps.pr : ∀ {v : List Vl} {d : List D} {p : List PyData}, Rps S U v d → vprs v = some p → Prs S d p
  | _, _, _, .nil, e => by cases e; exact .nil
  | _, _, _, .cons (v := v) (vs := vs) a b, e => by
    unfold vprs at e
    split at e
    · rename_i p ps h1 h2
      cases e
      exact .cons (Rp.pr a h1) (Rps.pr b h2)
    · cases e
theorem Rpk.pr : ∀ {v : List (L2.Key × Vl)} {d : List (L2.Key × D)} {p : List (PyData × PyData)}, Rpk S U v d → vprk v = some p → ∃ qs, Prs S (d.map (·.2)) qs ∧ p = (d.map fun kv => keyP kv.1).zip qs
  | _, _, _, .nil, e => by cases e; exact ⟨[], .nil, rfl⟩
  | _, _, _, .cons (v := v) (vs := vs) a b, e => by
    unfold vprk at e
    split at e
    · rename_i p ps h1 h2
      cases e
      obtain ⟨qs, q1, q2⟩ := Rpk.pr b h2
      exact ⟨p :: qs, .cons (Rp.pr a h1) q1, by rw [q2]; rfl⟩
    · cases e
end
theorem Bw.pr {p : PyData} (h : Bw S U v d) (e : vpr v = some p) : Psh S d p := by
  rcases h with h | ⟨a, rfl, _, o⟩
  · exact h.pr e
  · cases o with
    | lst z r =>
      rename_i vs ds
      unfold vpr at e
      cases h : vprs vs with
      | none => rw [h] at e; cases e
      | some ps => rw [h] at e; cases e; exact .lst z (r.pr h)
    | dic z r =>
      rename_i vs ds
      unfold vpr at e
      cases h : vprk vs with
      | none => rw [h] at e; cases e
      | some ps =>
        rw [h] at e; cases e
        obtain ⟨qs, h1, h2⟩ := r.pr h
        rw [h2]
        exact .dic (by first | exact z | exact .inl z) h1
end Mp

namespace Mp
open PySem

/-! ## the primitives -/
/-- what comes is new, or nothing that changes -/
def Kf (S : Sto) (U : Addr → Prop) (z : Vl) (Q : Post) : Prop := (∀ d, z.mut = false → Rp S U z d → Q d S) ∧ ∀ a o, S a = none → (∀ kd, o ≠ .lck kd) → Ow (S.put a o) (fun b => U b ∨ b = a) z a → Q (.ref a) (S.put a o)
section
variable {S S' S1 S2 : Sto} {U U' : Addr → Prop} {P : Addr → Prop} {v w x y z : Vl} {d e dx dy : D} {Q : Post} {R : Bool → Prop}
theorem fm_new {a : Addr} (h : S a = none) (o : Ob) : Fm P S U (S.put a o) (fun b => U b ∨ b = a) :=
  ⟨fun b hb _ => put_ne fun c => by subst c; exact hb h, fun b hb => by rw [put_ne fun c => by subst c; exact hb h]; exact hb, fun b hb => hb.imp id fun c => by rw [c]; exact h, fun b hb _ => .inl hb⟩
theorem Rps.new {a : Addr} (h : S a = none) (o : Ob) {vs : List Vl} {ds : List D} (r : Rps S U vs ds) : Rps (S.put a o) (fun b => U b ∨ b = a) vs ds := r.fm (P := fun _ => False) (fm_new h o) fun _ z => z.elim
theorem Rpk.new {a : Addr} (h : S a = none) (o : Ob) {vs : List (L2.Key × Vl)} {ds : List (L2.Key × D)} (r : Rpk S U vs ds) : Rpk (S.put a o) (fun b => U b ∨ b = a) vs ds := r.fm (P := fun _ => False) (fm_new h o) fun _ z => z.elim
theorem Kf.lst {vs : List Vl} {ds : List D} (k : Kf S U (.lst vs) Q) (r : Rps S U vs ds) : pNew (.lst ds) S Q := fun a h => k.2 a _ h (fun _ z => nomatch z) (.lst put_same (r.new h _))
theorem Kf.dic {vs : List (L2.Key × Vl)} {ds : List (L2.Key × D)} (k : Kf S U (.dic vs) Q) (r : Rpk S U vs ds) : pNew (.dic ds) S Q := fun a h => k.2 a _ h (fun _ z => nomatch z) (.dic (.inl put_same) (r.new h _))
theorem Rps.length : ∀ {vs : List Vl} {ds : List D}, Rps S U vs ds → vs.length = ds.length
  | _, _, .nil => rfl
  | _, _, .cons _ r => congrArg (· + 1) (Rps.length r)
theorem Rpk.length : ∀ {vs : List (L2.Key × Vl)} {ds : List (L2.Key × D)}, Rpk S U vs ds → vs.length = ds.length
  | _, _, .nil => rfl
  | _, _, .cons _ r => congrArg (· + 1) (Rpk.length r)
theorem Rps.append : ∀ {vs us : List Vl} {ds es : List D}, Rps S U vs ds → Rps S U us es → Rps S U (vs ++ us) (ds ++ es)
  | _, _, _, _, .nil, s => s
  | _, _, _, _, .cons a b, s => .cons a (Rps.append b s)
theorem Rps.get : ∀ {vs : List Vl} {ds : List D} {i : Nat} {v : Vl}, Rps S U vs ds → vs[i]? = some v → ∃ d, ds[i]? = some d ∧ Rp S U v d
  | _, _, _, _, .nil, e => by simp at e
  | _, _, 0, _, .cons a b, e => by simp at e; subst e; exact ⟨_, rfl, a⟩
  | _, _, i + 1, v, .cons a b, e => by
    obtain ⟨d, h1, h2⟩ := Rps.get (i := i) (v := v) b (by simpa using e)
    exact ⟨d, by simpa using h1, h2⟩
theorem Rps.drop : ∀ {vs : List Vl} {ds : List D} (n : Nat), Rps S U vs ds → Rps S U (vs.drop n) (ds.drop n)
  | _, _, 0, r => r
  | _, _, _ + 1, .nil => .nil
  | _, _, n + 1, .cons _ r => Rps.drop n r
theorem Rps.take : ∀ {vs : List Vl} {ds : List D} (n : Nat), Rps S U vs ds → Rps S U (vs.take n) (ds.take n)
  | _, _, 0, _ => .nil
  | _, _, _ + 1, .nil => .nil
  | _, _, n + 1, .cons a r => .cons a (Rps.take n r)
theorem Rps.set (q : Rp S U v d) : ∀ {vs : List Vl} {ds : List D} (i : Nat), Rps S U vs ds → Rps S U (vs.set i v) (ds.set i d)
  | _, _, _, .nil => .nil
  | _, _, 0, .cons _ r => .cons q r
  | _, _, i + 1, .cons a r => .cons a (Rps.set q i r)
theorem Rps.rep {vs : List Vl} {ds : List D} (r : Rps S U vs ds) : ∀ n : Nat, Rps S U (List.replicate n vs).flatten (List.replicate n ds).flatten
  | 0 => .nil
  | n + 1 => by simp only [List.replicate_succ, List.flatten_cons]; exact r.append (Rps.rep r n)
theorem Rps.cut {vs : List Vl} {ds : List D} (r : Rps S U vs ds) (i j : Option Int) : Rps S U (cutD vs i j) (cutD ds i j) := by
  unfold cutD; rw [r.length]; exact (r.drop _).take _
theorem Rps.dropLast {vs : List Vl} {ds : List D} (r : Rps S U vs ds) : Rps S U vs.dropLast ds.dropLast := by
  rw [List.dropLast_eq_take, List.dropLast_eq_take, r.length]; exact r.take _
theorem Rps.ints : ∀ ns : List Int, Rps S U (ns.map Vl.int) (ns.map D.int)
  | [] => .nil
  | n :: r => .cons (.int n) (Rps.ints r)
theorem Rps.strs : ∀ ns : List Str, Rps S U (ns.map Vl.str) (ns.map D.str)
  | [] => .nil
  | n :: r => .cons (.str n) (Rps.strs r)
theorem Rps.intsOf : ∀ {vs : List Vl} {ds : List D} {ns : List Int}, Rps S U vs ds → intsV vs = some ns → Mp.intsOf ds = some ns
  | _, _, _, .nil, e => e
  | _, _, _, .cons (v := v) (vs := vs) a b, e => by
    cases a <;> try (cases e; done)
    unfold intsV at e
    cases h : intsV vs with
    | none => rw [h] at e; cases e
    | some l => rw [h] at e; cases e; unfold Mp.intsOf; rw [Rps.intsOf b h]; rfl
theorem Rps.blsOf : ∀ {vs : List Vl} {ds : List D} {ns : List Bool}, Rps S U vs ds → blsV vs = some ns → Mp.blsOf ds = some ns
  | _, _, _, .nil, e => e
  | _, _, _, .cons (v := v) (vs := vs) a b, e => by
    cases a <;> try (cases e; done)
    unfold blsV at e
    cases h : blsV vs with
    | none => rw [h] at e; cases e
    | some l => rw [h] at e; cases e; unfold Mp.blsOf; rw [Rps.blsOf b h]; rfl
theorem Rps.strsOf : ∀ {vs : List Vl} {ds : List D} {ns : List Str}, Rps S U vs ds → strsV vs = some ns → Mp.strsOf ds = some ns
  | _, _, _, .nil, e => e
  | _, _, _, .cons (v := v) (vs := vs) a b, e => by
    cases a <;> try (cases e; done)
    unfold strsV at e
    cases h : strsV vs with
    | none => rw [h] at e; cases e
    | some l => rw [h] at e; cases e; unfold Mp.strsOf; rw [Rps.strsOf b h]; rfl
theorem Bw.lst {vs : List Vl} (h : Bw S U (.lst vs) d) : ∃ a ds, d = .ref a ∧ S a = some (.lst ds) ∧ Rps S U vs ds := by
  rcases h with h | ⟨a, rfl, _, o⟩
  · cases h with
    | lst n e r => exact ⟨_, _, rfl, e, r⟩
  · cases o with
    | lst e r => exact ⟨_, _, rfl, e, r⟩
theorem Bw.dic {vs : List (L2.Key × Vl)} (h : Bw S U (.dic vs) d) : ∃ a ds, d = .ref a ∧ (S a = some (.dic ds) ∨ S a = some (.lck ds)) ∧ Rpk S U vs ds := by
  rcases h with h | ⟨a, rfl, _, o⟩
  · cases h with
    | dic n e r => exact ⟨_, _, rfl, e, r⟩
  · cases o with
    | dic e r => exact ⟨_, _, rfl, e, r⟩
theorem Bw.im (h : Bw S U v d) (m : v.mut = false) : Rp S U v d := by
  rcases h with h | ⟨a, rfl, _, o⟩
  · exact h
  · cases o <;> cases m
theorem Bw.tup {vs : List Vl} (h : Bw S U (.tup vs) d) : ∃ ds, d = .tup ds ∧ Rps S U vs ds := by
  have := h.im rfl; cases this; exact ⟨_, rfl, by assumption⟩
theorem Bw.int {i : Int} (h : Bw S U (.int i) d) : d = .int i := by have := h.im rfl; cases this; rfl
theorem Bw.str {i : Str} (h : Bw S U (.str i) d) : d = .str i := by have := h.im rfl; cases this; rfl
theorem Bw.bl {i : Bool} (h : Bw S U (.bl i) d) : d = .bl i := by have := h.im rfl; cases this; rfl
theorem Bw.scr {i : List Int} (h : Bw S U (.scr i) d) : d = .scr i := by have := h.im rfl; cases this; rfl
theorem Bw.non (h : Bw S U .non d) : d = .non := by have := h.im rfl; cases this; rfl
theorem vBin_ok {o : Operator} (h : vBin o x y = some z) (rx : Bw S U x dx) (ry : Bw S U y dy) (k : Kf S U z Q) : pBin o dx dy S Q := by
  cases o <;> try (cases h; done)
  · -- Add
    show pAdd dx dy S Q
    have h : vAdd x y = some z := h
    unfold vAdd at h
    split at h
    · cases rx.int; cases ry.int; cases h; exact k.1 _ rfl (.int _)
    · cases rx.str; cases ry.str; obtain ⟨h1, h2⟩ := gd_some h; cases h2; exact ⟨h1, k.1 _ rfl (.str _)⟩
    · obtain ⟨ds, rfl, r⟩ := rx.tup; obtain ⟨es, rfl, s⟩ := ry.tup; obtain ⟨h1, h2⟩ := gd_some h; cases h2
      exact ⟨by rw [← r.length, ← s.length]; exact h1, k.1 _ rfl (.tup (r.append s))⟩
    · obtain ⟨a, ds, rfl, e1, r⟩ := rx.lst; obtain ⟨b, es, rfl, e2, s⟩ := ry.lst; obtain ⟨h1, h2⟩ := gd_some h; cases h2
      unfold pAdd; simp only [e1, e2]
      exact ⟨by rw [← r.length, ← s.length]; exact h1, k.lst (r.append s)⟩
    · cases h
  · -- Sub
    unfold vBin at h
    dsimp only at h
    split at h
    · cases rx.int; cases ry.int; cases h; exact ⟨_, _, rfl, rfl, k.1 _ rfl (.int _)⟩
    · cases h
  · show pMul dx dy S Q
    have h : vMul x y = some z := h
    unfold vMul at h
    split at h
    · cases rx.int; cases ry.int; obtain ⟨h1, h2⟩ := gd_some h; cases h2; exact ⟨h1, k.1 _ rfl (.int _)⟩
    · obtain ⟨ds, rfl, r⟩ := rx.tup; cases ry.int
      unfold cnd at h
      split at h
      · rename_i c; cases h; exact .inl ⟨of_decide_eq_true c, k.1 _ rfl (.tup r)⟩
      · split at h
        · rename_i c; obtain ⟨h0, h4⟩ := gd_some h; cases h4
          exact .inr (.inl ⟨of_decide_eq_true c, fun c => by subst c; cases r; exact h0 rfl, k.1 _ rfl (.tup .nil)⟩)
        · obtain ⟨⟨h0, h1, h2, h3⟩, h4⟩ := gd_some h; cases h4
          exact .inr (.inr ⟨fun c => by subst c; cases r; exact h0 rfl, h1, h2, by rw [← r.length]; exact h3, k.1 _ rfl (.tup (r.rep _))⟩)
    · obtain ⟨a, ds, rfl, e1, r⟩ := rx.lst; cases ry.int; obtain ⟨⟨h1, h2, h3⟩, h4⟩ := gd_some h; cases h4
      unfold pMul; simp only [e1]
      exact ⟨h1, h2, by rw [← r.length]; exact h3, k.lst (r.rep _)⟩
    · cases h
  · unfold vBin at h
    dsimp only at h
    split at h
    · cases rx.int; cases ry.int; obtain ⟨h1, h2⟩ := gd_some h; cases h2; exact ⟨_, _, rfl, rfl, h1, k.1 _ rfl (.int _)⟩
    · cases h
  · unfold vBin at h
    dsimp only at h
    split at h
    · cases rx.int; cases ry.int; obtain ⟨h1, h2⟩ := gd_some h; cases h2; exact ⟨_, _, rfl, rfl, h1, k.1 _ rfl (.int _)⟩
    · cases h
  · unfold vBin at h
    dsimp only at h
    split at h
    · cases rx.int; cases ry.int; obtain ⟨h1, h2⟩ := gd_some h; cases h2; exact ⟨_, _, rfl, rfl, h1, k.1 _ rfl (.int _)⟩
    · cases h
theorem scal_of (h : scalV x y = true) (rx : Bw S U x dx) (ry : Bw S U y dy) : scalD dx dy = true ∧ dx.toV = x.toV ∧ dy.toV = y.toV := by
  have mx : x.mut = false := by cases x <;> first | rfl | (cases y <;> cases h)
  have my : y.mut = false := by cases y <;> first | rfl | (cases x <;> cases h)
  have rx := rx.im mx
  have ry := ry.im my
  cases rx <;> cases ry <;> first | exact ⟨rfl, rfl, rfl⟩ | cases h
theorem vEq_ok {c : Bool} (h : vEq x y = some c) (rx : Bw S U x dx) (ry : Bw S U y dy) (r : R c) : pEq dx dy S R := by
  unfold vEq at h
  cases hs : scalV x y with
  | true =>
    rw [hs] at h
    have h : some (decide (x.toV = y.toV)) = some c := h
    cases h
    obtain ⟨e1, e2, e3⟩ := scal_of hs rx ry
    exact .inl ⟨e1, by rw [e2, e3]; exact r⟩
  | false =>
    rw [hs] at h
    obtain ⟨p, hp, h⟩ := ob_some (show ob (vpd x) _ = some c from h)
    obtain ⟨q, hq, h⟩ := ob_some h
    obtain ⟨⟨s1, s2⟩, h⟩ := gd_some h
    cases h
    exact .inr ⟨p, q, rx.pd hp, ry.pd hq, s1, s2, r⟩
theorem flat_of (h : x.flat = true) (rx : Rp S U x dx) : dx.flat = true ∧ dx.toV = x.toV := by
  cases rx <;> first | exact ⟨rfl, rfl⟩ | cases h
theorem flats_of : ∀ {vs : List Vl} {ds : List D}, vs.all Vl.flat = true → Rps S U vs ds → ds.all D.flat = true ∧ ∀ f : L2.V → Bool, (ds.any fun y => f y.toV) = vs.any fun y => f y.toV
  | _, _, _, .nil => ⟨rfl, fun _ => rfl⟩
  | _, _, h, .cons a b => by
    rw [List.all_cons, Bool.and_eq_true] at h
    obtain ⟨e1, e2⟩ := flat_of h.1 a
    obtain ⟨f1, f2⟩ := flats_of h.2 b
    exact ⟨by rw [List.all_cons, e1, f1]; rfl, fun f => by rw [List.any_cons, List.any_cons, e2, f2]⟩
theorem Bw.flat (h : x.flat = true) (rx : Bw S U x dx) : dx.flat = true ∧ dx.toV = x.toV := flat_of h (rx.im (by cases x <;> first | rfl | cases h))
theorem key_of {k : L2.Key} (h : keyV x = some k) (rx : Bw S U x dx) : keyOf dx = some k := by
  cases x <;> try (cases h; done)
  · cases rx.int; exact h
  · cases rx.str; exact h
theorem kV_rp (k : L2.Key) : Rp S U (kVl k) (kD k) := by
  cases k with
  | inl i => exact .int i
  | inr x => exact .str x
theorem Rpk.get : ∀ {vs : List (L2.Key × Vl)} {ds : List (L2.Key × D)} (k : L2.Key), Rpk S U vs ds → (getV vs k = none → getK ds k = none) ∧ ∀ v, getV vs k = some v → ∃ d, getK ds k = some d ∧ Rp S U v d
  | _, _, k, .nil => ⟨fun _ => rfl, fun _ z => by cases z⟩
  | _, _, k, .cons (k := k') (v := v) (d := d) a b => by
    have ih := Rpk.get k b
    unfold getK getV at *
    rw [List.find?_cons, List.find?_cons]
    by_cases hk : k' = k
    · simp only [hk, decide_true, Option.map_some]
      exact ⟨fun z => (by cases z), fun w z => (by cases z; exact ⟨d, rfl, a⟩)⟩
    · simp only [hk, decide_false]
      exact ih
theorem Rpk.any : ∀ {vs : List (L2.Key × Vl)} {ds : List (L2.Key × D)} (k : L2.Key), Rpk S U vs ds → (ds.any fun kv => decide (kv.1 = k)) = (vs.any fun kv => decide (kv.1 = k))
  | _, _, k, .nil => rfl
  | _, _, k, .cons a b => by rw [List.any_cons, List.any_cons, Rpk.any k b]
theorem Rpk.map (k : L2.Key) (q : Rp S U v d) : ∀ {vs : List (L2.Key × Vl)} {ds : List (L2.Key × D)}, Rpk S U vs ds → Rpk S U (vs.map fun kv => if kv.1 = k then (kv.1, v) else kv) (ds.map fun kv => if kv.1 = k then (kv.1, d) else kv)
  | _, _, .nil => .nil
  | _, _, .cons (k := k') a b => by
    rw [List.map_cons, List.map_cons]
    by_cases hk : k' = k
    · simp only [hk, if_true]; exact .cons q (Rpk.map k q b)
    · simp only [hk, if_false]; exact .cons a (Rpk.map k q b)
theorem Rpk.snoc (k : L2.Key) (q : Rp S U v d) : ∀ {vs : List (L2.Key × Vl)} {ds : List (L2.Key × D)}, Rpk S U vs ds → Rpk S U (vs ++ [(k, v)]) (ds ++ [(k, d)])
  | _, _, .nil => .cons q .nil
  | _, _, .cons a b => .cons a (Rpk.snoc k q b)
theorem Rpk.put (k : L2.Key) (q : Rp S U v d) {vs : List (L2.Key × Vl)} {ds : List (L2.Key × D)} (h : Rpk S U vs ds) : Rpk S U (putV vs k v) (putD ds k d) := by
  unfold putV putD
  rw [Rpk.any k h]
  split
  · exact h.map k q
  · exact h.snoc k q
theorem Rpk.merge : ∀ {more : List (L2.Key × Vl)} {mv : List (L2.Key × D)}, Rpk S U more mv → ∀ {vs : List (L2.Key × Vl)} {ds : List (L2.Key × D)}, Rpk S U vs ds → Rpk S U (mergeV vs more) (mergeD ds mv)
  | _, _, .nil, _, _, h => h
  | _, _, .cons (k := k) a b, _, _, h => Rpk.merge b (h.put k a)
theorem pairs_rp : ∀ {vs : List Vl} {ds : List D} {ps : List (L2.Key × Vl)}, Rps S U vs ds → pairsV vs = some ps → ∃ pd, pairsOf ds = some pd ∧ Rpk S U ps pd
  | _, _, _, .nil, e => by cases e; exact ⟨[], rfl, .nil⟩
  | _, _, _, .cons a .nil, e => by cases e
  | _, _, _, .cons a (.cons (vs := vs) b c), e => by
    unfold pairsV at e
    split at e
    · rename_i k ps h1 h2
      cases e
      obtain ⟨pd, e2, r⟩ := pairs_rp c h2
      refine ⟨_, ?_, .cons b r⟩
      unfold pairsOf
      rw [key_of h1 (.inl a), e2]
    · cases e
theorem dGet_rp {o : Option Vl} (h : vGet x y = some o) (rx : Bw S U x dx) (ry : Bw S U y dy) {T : Option D → Prop} (k : ∀ od, (o = none → od = none) → (∀ v, o = some v → ∃ d, od = some d ∧ Rp S U v d) → T od) : ∃ a, dx = .ref a ∧ dGet S a dy T := by
  unfold vGet at h
  split at h
  · rename_i kvs
    obtain ⟨a, ds, rfl, e, r⟩ := rx.dic
    refine ⟨a, rfl, ?_⟩
    cases hk : keyV y with
    | none => rw [hk] at h; cases h
    | some key =>
      rw [hk] at h
      have h := Option.some.inj h
      have z : T (getK ds key) := by
        obtain ⟨g1, g2⟩ := r.get key
        exact k _ (fun z => g1 (h.trans z)) fun v z => g2 v (h.trans z)
      unfold dGet
      rcases e with e | e <;> rw [e] <;> exact ⟨key, key_of hk ry, z⟩
  · cases h
theorem vIn_ok {c : Bool} (h : vIn x y = some c) (rx : Bw S U x dx) (ry : Bw S U y dy) (r : R c) : pIn dx dy S R := by
  unfold vIn at h
  split at h
  · split at h
    · cases ry.str; cases rx.str; cases h; exact ⟨_, rfl, r⟩
    · cases h
  · rename_i ys
    obtain ⟨ds, rfl, q⟩ := ry.tup
    cases hf : (x.flat && ys.all Vl.flat) with
    | false => rw [hf] at h; cases h
    | true =>
      rw [hf] at h
      have h : some _ = some c := h
      cases h
      rw [Bool.and_eq_true] at hf
      obtain ⟨e1, e2⟩ := rx.flat hf.1
      obtain ⟨f1, f2⟩ := flats_of hf.2 q
      exact ⟨e1, f1, by rw [f2 (fun t => L2.eqV t dx.toV), e2]; exact r⟩
  · rename_i ys
    obtain ⟨a, ds, rfl, e, q⟩ := ry.lst
    show (match S a with | some (.lst ys) => pInL dx ys S R | _ => dGet S a dx fun o => R o.isSome)
    rw [e]
    show pInL dx ds S R
    unfold vInL at h
    cases hf : (x.flat && ys.all Vl.flat) with
    | true =>
      rw [hf] at h
      have h : some _ = some c := h
      cases h
      rw [Bool.and_eq_true] at hf
      obtain ⟨e1, e2⟩ := rx.flat hf.1
      obtain ⟨f1, f2⟩ := flats_of hf.2 q
      exact .inl ⟨e1, f1, by rw [f2 (fun t => L2.eqV t dx.toV), e2]; exact r⟩
    | false =>
      rw [hf] at h
      obtain ⟨p, hp, h⟩ := ob_some (show ob (vpd x) _ = some c from h)
      obtain ⟨ps, hq, h⟩ := ob_some h
      obtain ⟨⟨s1, s2⟩, h⟩ := gd_some h
      cases h
      exact .inr ⟨p, ps, rx.pd hp, q.pd hq, s1, s2, r⟩
  · rename_i kvs
    cases hg : vGet (.dic kvs) x with
    | none => rw [hg] at h; cases h
    | some o =>
      rw [hg] at h; cases h
      obtain ⟨a, rfl, g⟩ := dGet_rp (T := fun o' => R o'.isSome) hg ry rx fun od h1 h2 => by
        cases o with
        | none => rw [h1 rfl]; exact r
        | some v => obtain ⟨d, e, _⟩ := h2 v rfl; rw [e]; exact r
      show (match S a with | some (.lst ys) => pInL dx ys S R | _ => dGet S a dx fun o => R o.isSome)
      split
      · rename_i e; unfold dGet at g; rw [e] at g; exact g.elim
      · exact g
  · cases h
theorem vCmp_ok {o : CmpOp} {c : Bool} (h : vCmp o x y = some c) (rx : Bw S U x dx) (ry : Bw S U y dy) (r : R c) : pCmp o dx dy S R := by
  have mp : ∀ {t : Option Bool}, t.map (!·) = some c → ∃ b, t = some b ∧ c = !b := fun {t} e => by
    cases t with
    | none => cases e
    | some b => exact ⟨b, rfl, (Option.some.inj e).symm⟩
  cases o with
  | Eq => exact vEq_ok h rx ry r
  | NotEq => obtain ⟨b, h1, rfl⟩ := mp h; exact vEq_ok (R := fun b => R (!b)) h1 rx ry r
  | In => exact vIn_ok h rx ry r
  | NotIn => obtain ⟨b, h1, rfl⟩ := mp h; exact vIn_ok (R := fun b => R (!b)) h1 rx ry r
  | Is =>
    unfold vCmp at h
    dsimp only at h
    split at h
    · cases h
      cases ry.non
      refine ⟨rfl, ?_⟩
      rcases rx with rx | ⟨a, rfl, _, o⟩
      · cases rx <;> exact r
      · cases o <;> exact r
    · cases h
  | IsNot =>
    unfold vCmp at h
    dsimp only at h
    split at h
    · cases h
      cases ry.non
      refine ⟨rfl, ?_⟩
      rcases rx with rx | ⟨a, rfl, _, o⟩
      · cases rx <;> exact r
      · cases o <;> exact r
    · cases h
  | _ =>
    unfold vCmp at h
    dsimp only at h
    split at h
    · cases rx.int; cases ry.int; cases h; exact ⟨_, _, rfl, rfl, r⟩
    · cases h
theorem vTru_ok {c : Bool} (h : vTru x = some c) (rx : Bw S U x dx) (r : R c) : pTru dx S R := by
  cases x with
  | non => cases rx.non; cases h; exact r
  | bl b => cases rx.bl; cases h; exact r
  | int b => cases rx.int; cases h; exact r
  | str b => cases rx.str; obtain ⟨h1, h2⟩ := gd_some h; cases h2; exact ⟨h1, r⟩
  | tup b => obtain ⟨ds, rfl, q⟩ := rx.tup; cases h; cases q <;> exact r
  | scr b => cases rx.scr; cases h; exact r
  | lst b => obtain ⟨a, ds, rfl, e, q⟩ := rx.lst; cases h; unfold pTru; simp only [e]; cases q <;> exact r
  | dic b => cases h
theorem vIsi_ok {t : Ty} (rx : Bw S U x dx) (r : R (vIsi x t)) : pIsi dx t S R := by
  cases x with
  | non => cases rx.non; cases t <;> exact r
  | bl b => cases rx.bl; cases t <;> exact r
  | int b => cases rx.int; cases t <;> exact r
  | str b => cases rx.str; cases t <;> exact r
  | tup b => obtain ⟨ds, rfl, q⟩ := rx.tup; cases t <;> exact r
  | scr b => cases rx.scr; cases t <;> exact r
  | lst b => obtain ⟨a, ds, rfl, e, q⟩ := rx.lst; unfold pIsi tyOf; simp only [e]; cases t <;> exact r
  | dic b => obtain ⟨a, ds, rfl, e, q⟩ := rx.dic; unfold pIsi tyOf; rcases e with e | e <;> simp only [e] <;> cases t <;> exact r
theorem Rps.atI {vs : List Vl} {ds : List D} {i : Int} (r : Rps S U vs ds) (h : L2.atI vs i = some v) : ∃ d, L2.atI ds i = some d ∧ Rp S U v d := by
  unfold L2.atI at h ⊢
  rw [← r.length]
  cases z : L2.ixN vs.length i with
  | none => rw [z] at h; cases h
  | some j => rw [z] at h; exact r.get (i := j) (v := v) h
theorem vIx_ok (h : vIx x y = some z) (rx : Bw S U x dx) (ry : Bw S U y dy) (k : ∀ d, Rp S U z d → Q d S) : pIx dx dy S Q := by
  unfold vIx at h
  split at h
  · split at h
    · obtain ⟨ds, rfl, q⟩ := rx.tup; cases ry.int
      obtain ⟨d, e, r⟩ := q.atI h
      exact ⟨_, d, rfl, e, k _ r⟩
    · cases h
  · split at h
    · cases rx.scr; cases ry.int
      rename_i u _ i
      cases hz : L2.atI u i with
      | none => rw [hz] at h; cases h
      | some n => rw [hz] at h; cases h; exact ⟨_, n, rfl, hz, k _ (.int _)⟩
    · cases h
  · split at h
    · cases rx.str; cases ry.int
      obtain ⟨h1, h⟩ := gd_some h
      rename_i u _ i _
      cases hz : L2.atI u.cps.toList i with
      | none => rw [hz] at h; cases h
      | some n => rw [hz] at h; cases h; exact ⟨_, n, rfl, h1, hz, k _ (.str _)⟩
    · cases h
  · split at h
    · obtain ⟨a, ds, rfl, e, q⟩ := rx.lst; cases ry.int
      obtain ⟨d, e2, r⟩ := q.atI h
      unfold pIx; simp only [e]
      exact ⟨_, d, rfl, e2, k _ r⟩
    · cases h
  · rename_i kvs
    cases hg : vGet (.dic kvs) y with
    | none => rw [hg] at h; cases h
    | some o =>
      rw [hg] at h
      have h : o = some z := h
      subst h
      obtain ⟨a, rfl, g⟩ := dGet_rp (T := fun o' => ∃ d, o' = some d ∧ Q d S) hg rx ry fun od h1 h2 => by
        obtain ⟨d, e, r⟩ := h2 z rfl
        exact ⟨d, e, k d r⟩
      show (match S a with | some (.lst u) => ∃ k d, dy = .int k ∧ L2.atI u k = some d ∧ Q d S | _ => dGet S a dy fun o => ∃ d, o = some d ∧ Q d S)
      split
      · rename_i e; unfold dGet at g; rw [e] at g; exact g.elim
      · exact g
  · cases h
theorem part_rp : ∀ {vs : List Vl} {ds : List D} {i : Option Int}, Rps S U vs ds → partV vs = some i → partOf ds = some i
  | _, _, _, .nil, e => e
  | _, _, _, .cons a .nil, e => by cases a <;> first | exact e | cases e
  | _, _, _, .cons (v := v) a (.cons b c), e => by cases v <;> cases e
theorem vSl_ok {i j : Option Int} (h : vSl x i j = some z) (rx : Bw S U x dx) (k : Kf S U z Q) : pSl dx i j S Q := by
  unfold vSl at h
  split at h
  · obtain ⟨ds, rfl, q⟩ := rx.tup; cases h; exact k.1 _ rfl (.tup (q.cut i j))
  · cases rx.scr; cases h; exact k.lst (Rps.ints _)
  · cases rx.str; obtain ⟨h1, h2⟩ := gd_some h; cases h2; exact ⟨h1, k.1 _ rfl (.str _)⟩
  · obtain ⟨a, ds, rfl, e, q⟩ := rx.lst; cases h; unfold pSl; simp only [e]; exact k.lst (q.cut i j)
  · cases h
theorem seq_rp {u : List Vl} (h : seqV x = some u) (rx : Bw S U x dx) : ∃ ds, seqOf dx S = some ds ∧ Rps S U u ds := by
  cases x <;> try (cases h; done)
  · obtain ⟨ds, rfl, q⟩ := rx.tup; cases h; exact ⟨ds, rfl, q⟩
  · cases rx.scr; cases h; exact ⟨_, rfl, Rps.ints _⟩
  · obtain ⟨a, ds, rfl, e, q⟩ := rx.lst; cases h; exact ⟨ds, by unfold seqOf; simp only [e], q⟩
theorem Rpk.keys : ∀ {vs : List (L2.Key × Vl)} {ds : List (L2.Key × D)}, Rpk S U vs ds → Rps S U (vs.map fun kv => kVl kv.1) (ds.map fun kv => kD kv.1)
  | _, _, .nil => .nil
  | _, _, .cons a b => .cons (kV_rp _) (Rpk.keys b)
theorem walk_rp {u : List Vl} (h : walkV x = some u) (rx : Bw S U x dx) : ∃ ds, walkOf dx S = some ds ∧ Rps S U u ds := by
  cases x <;> try (cases h; done)
  · obtain ⟨ds, rfl, q⟩ := rx.tup; cases h; exact ⟨ds, rfl, q⟩
  · cases rx.scr; cases h; exact ⟨_, rfl, Rps.ints _⟩
  · obtain ⟨a, ds, rfl, e, q⟩ := rx.lst; cases h; exact ⟨ds, by unfold walkOf seqOf; simp only [e], q⟩
  · obtain ⟨a, ds, rfl, e, q⟩ := rx.dic; cases h; exact ⟨_, by unfold walkOf; rcases e with e | e <;> simp only [e], q.keys⟩
theorem foldl_max : ∀ (r : List Int) (n : Int), (r.foldl max n ∈ n :: r) ∧ ∀ y ∈ n :: r, y ≤ r.foldl max n
  | [], n => ⟨by simp, fun y h => by simp at h; subst h; exact Int.le_refl _⟩
  | m :: r, n => by
    obtain ⟨h1, h2⟩ := foldl_max r (max n m)
    rw [List.foldl_cons]
    have hb := h2 _ (List.mem_cons_self ..)
    refine ⟨?_, fun y hy => ?_⟩
    · rcases List.mem_cons.mp h1 with e | e
      · rw [e]
        rcases Int.le_total n m with c | c
        · rw [Int.max_eq_right c]; simp
        · rw [Int.max_eq_left c]; simp
      · simp [e]
    · rcases List.mem_cons.mp hy with e | e
      · subst e; exact Int.le_trans (Int.le_max_left ..) hb
      · rcases List.mem_cons.mp e with e | e
        · subst e; exact Int.le_trans (Int.le_max_right ..) hb
        · exact h2 y (List.mem_cons_of_mem _ e)
theorem foldl_min : ∀ (r : List Int) (n : Int), (r.foldl min n ∈ n :: r) ∧ ∀ y ∈ n :: r, r.foldl min n ≤ y
  | [], n => ⟨by simp, fun y h => by simp at h; subst h; exact Int.le_refl _⟩
  | m :: r, n => by
    obtain ⟨h1, h2⟩ := foldl_min r (min n m)
    rw [List.foldl_cons]
    have hb := h2 _ (List.mem_cons_self ..)
    refine ⟨?_, fun y hy => ?_⟩
    · rcases List.mem_cons.mp h1 with e | e
      · rw [e]
        rcases Int.le_total n m with c | c
        · rw [Int.min_eq_left c]; simp
        · rw [Int.min_eq_right c]; simp
      · simp [e]
    · rcases List.mem_cons.mp hy with e | e
      · subst e; exact Int.le_trans hb (Int.min_le_left ..)
      · rcases List.mem_cons.mp e with e | e
        · subst e; exact Int.le_trans hb (Int.min_le_right ..)
        · exact h2 y (List.mem_cons_of_mem _ e)
theorem maxI_ok {ns : List Int} {m : Int} (h : maxI ns = some m) : m ∈ ns ∧ ∀ y ∈ ns, y ≤ m := by
  cases ns with
  | nil => cases h
  | cons n r => cases h; exact foldl_max r n
theorem minI_ok {ns : List Int} {m : Int} (h : minI ns = some m) : m ∈ ns ∧ ∀ y ∈ ns, m ≤ y := by
  cases ns with
  | nil => cases h
  | cons n r => cases h; exact foldl_min r n
theorem sorted_unique : ∀ {l m : List Int}, l.Perm m → l.Pairwise (· ≤ ·) → m.Pairwise (· ≤ ·) → l = m
  | [], m, h, _, _ => h.nil_eq
  | a :: l, [], h, _, _ => by simpa using h.length_eq
  | a :: l, b :: m, h, h1, h2 => by
    have e : a = b := by
      rw [List.pairwise_cons] at h1 h2
      have ha : b ∈ a :: l := h.symm.subset (List.mem_cons_self ..)
      have hb : a ∈ b :: m := h.subset (List.mem_cons_self ..)
      have x1 : a ≤ b := by
        rcases List.mem_cons.mp ha with e | e
        · exact Int.le_of_eq e.symm
        · exact h1.1 b e
      have x2 : b ≤ a := by
        rcases List.mem_cons.mp hb with e | e
        · exact Int.le_of_eq e.symm
        · exact h2.1 a e
      exact Int.le_antisymm x1 x2
    subst e
    rw [sorted_unique ((List.perm_cons a).mp h) h1.tail h2.tail]
theorem sortI_ok (ns : List Int) : (sortI ns).Perm ns ∧ (sortI ns).Pairwise (· ≤ ·) := by
  refine ⟨List.mergeSort_perm _ _, ?_⟩
  have h := List.pairwise_mergeSort (le := fun a b : Int => decide (a ≤ b)) (fun a b c h1 h2 => by simp only [decide_eq_true_eq] at *; omega) (fun a b => by simp only [Bool.or_eq_true, decide_eq_true_eq]; omega) ns
  exact h.imp fun h => of_decide_eq_true h
theorem sortedS_unique : ∀ {l m : List Str}, l.Perm m → l.Pairwise (fun a b => a.cps.toList ≤ b.cps.toList) → m.Pairwise (fun a b => a.cps.toList ≤ b.cps.toList) → l = m
  | [], m, h, _, _ => h.nil_eq
  | a :: l, [], h, _, _ => by simpa using h.length_eq
  | a :: l, b :: m, h, h1, h2 => by
    have e : a = b := by
      rw [List.pairwise_cons] at h1 h2
      have ha : b ∈ a :: l := h.symm.subset (List.mem_cons_self ..)
      have hb : a ∈ b :: m := h.subset (List.mem_cons_self ..)
      have x1 : a.cps.toList ≤ b.cps.toList := by
        rcases List.mem_cons.mp ha with e | e
        · rw [e]; exact List.le_refl _
        · exact h1.1 b e
      have x2 : b.cps.toList ≤ a.cps.toList := by
        rcases List.mem_cons.mp hb with e | e
        · rw [e]; exact List.le_refl _
        · exact h2.1 a e
      have := List.le_antisymm x1 x2
      cases a; cases b
      simpa using this
    subst e
    rw [sortedS_unique ((List.perm_cons a).mp h) h1.tail h2.tail]
theorem sortS_ok (ns : List Str) : (sortS ns).Perm ns ∧ (sortS ns).Pairwise (fun a b => a.cps.toList ≤ b.cps.toList) := by
  refine ⟨List.mergeSort_perm _ _, ?_⟩
  have h := List.pairwise_mergeSort (le := fun a b : Str => decide (a.cps.toList ≤ b.cps.toList)) (fun a b c h1 h2 => by
    simp only [decide_eq_true_eq] at *; exact List.le_trans h1 h2) (fun a b => by simp only [Bool.or_eq_true, decide_eq_true_eq]; exact List.le_total _ _) ns
  exact h.imp fun h => of_decide_eq_true h
theorem risingS_pw : ∀ {l : List Str} {p : Str}, PyProof.Rows.risingS p l = true → (p :: l).Pairwise (fun a b => a.cps.toList ≤ b.cps.toList)
  | [], p, _ => List.pairwise_singleton _ _
  | x :: r, p, h => by
    have h : (!Spec.ltCps x.cps.toList p.cps.toList && PyProof.Rows.risingS x r) = true := h
    rw [Bool.and_eq_true, PyProof.Rows.ltCps_eq] at h
    have le : p.cps.toList ≤ x.cps.toList := by have := h.1; simp only [Bool.not_eq_true', decide_eq_false_iff_not] at this; exact this
    have ih := risingS_pw h.2
    rw [List.pairwise_cons]
    refine ⟨fun y hy => ?_, ih⟩
    rcases List.mem_cons.mp hy with e | m
    · rw [e]; exact le
    · exact List.le_trans le ((List.pairwise_cons.mp ih).1 y m)
theorem sortedS_pw {l : List Str} (h : PyProof.Rows.sortedS l = true) : l.Pairwise (fun a b => a.cps.toList ≤ b.cps.toList) := by
  cases l with
  | nil => exact List.Pairwise.nil
  | cons x r => exact risingS_pw h
theorem Bws.one {vs : List D} (h : Bws S U [x] vs) {T : List D → Prop} (k : ∀ d, Bw S U x d → T [d]) : T vs := by
  cases h with
  | cons a b => cases b; exact k _ a
theorem tupV_rp : ∀ {vs l : List Vl} {ds : List D}, Rps S U vs ds → tupV vs = some l → ∃ dl, tupP ds = some dl ∧ Rps S U l dl
  | _, _, _, .nil, e => by cases e; exact ⟨[], rfl, .nil⟩
  | _, _, _, .cons (vs := vs) a b, e => by
    unfold tupV at e
    split at e
    · rename_i k v l h
      cases e
      obtain ⟨dl, e2, r⟩ := tupV_rp b h
      cases a with
      | tup q =>
        cases q with
        | cons q1 q2 =>
          cases q2 with
          | cons q2 q3 =>
            cases q3
            refine ⟨_, ?_, .cons q1 (.cons q2 r)⟩
            unfold tupP
            rw [e2]
    · cases e
theorem vB_ok {f : Bt} {vs : List Vl} {ds : List D} (h : vB f vs = some z) (rx : Bws S U vs ds) (k : Kf S U z Q) : pB f ds S Q := by
  unfold vB at h
  split at h
  · refine rx.one (T := fun ds => pB _ ds S Q) fun d r => ?_; cases r.str; obtain ⟨h1, h2⟩ := gd_some h; cases h2; exact ⟨h1, k.1 _ rfl (.int _)⟩
  · refine rx.one (T := fun ds => pB _ ds S Q) fun d r => ?_; obtain ⟨ds, rfl, q⟩ := r.tup; cases h
    show Q (.int ds.length) S
    rw [← q.length]; exact k.1 _ rfl (.int _)
  · refine rx.one (T := fun ds => pB _ ds S Q) fun d r => ?_; cases r.scr; cases h; exact k.1 _ rfl (.int _)
  · refine rx.one (T := fun ds => pB _ ds S Q) fun d r => ?_; obtain ⟨a, ds, rfl, e, q⟩ := r.lst; cases h
    show pLen (.ref a) S Q
    unfold pLen; simp only [e]; rw [← q.length]; exact k.1 _ rfl (.int _)
  · refine rx.one (T := fun ds => pB _ ds S Q) fun d r => ?_; obtain ⟨a, ds, rfl, e, q⟩ := r.dic; cases h
    show pLen (.ref a) S Q
    unfold pLen; rcases e with e | e <;> simp only [e] <;> rw [← q.length] <;> exact k.1 _ rfl (.int _)
  · refine rx.one (T := fun ds => pB _ ds S Q) fun d r => ?_; cases r.int; cases h; exact k.1 _ rfl (.int _)
  · refine rx.one (T := fun ds => pB _ ds S Q) fun d r => ?_; cases r.bl; cases h; exact k.1 _ rfl (.int _)
  · refine rx.one (T := fun ds => pB _ ds S Q) fun d r => ?_; cases r.int; cases h; exact k.1 _ rfl (.int _)
  · refine rx.one (T := fun ds => pB _ ds S Q) fun d r => ?_; cases r.int; obtain ⟨h1, h2⟩ := gd_some h; cases h2; exact ⟨h1, k.1 _ rfl (.str _)⟩
  · cases rx with
    | cons a b => cases b with
      | cons b c => cases c; cases a.int; cases b.int; cases h; exact k.1 _ rfl (.int _)
  · cases rx with
    | cons a b => cases b with
      | cons b c => cases c; cases a.int; cases b.int; cases h; exact k.1 _ rfl (.int _)
  · refine rx.one (T := fun ds => pB _ ds S Q) fun d r => ?_
    obtain ⟨u, h1, h2⟩ := ob_some h
    cases h2
    obtain ⟨ds, e, q⟩ := seq_rp h1 r
    exact ⟨ds, e, k.1 _ rfl (.tup q)⟩
  · refine rx.one (T := fun ds => pB _ ds S Q) fun d r => ?_
    obtain ⟨u, h1, h2⟩ := ob_some h
    cases h2
    obtain ⟨ds, e, q⟩ := walk_rp h1 r
    exact ⟨ds, e, k.lst q⟩
  · refine rx.one (T := fun ds => pB _ ds S Q) fun d r => ?_
    obtain ⟨a, ds, rfl, e, q⟩ := r.lst
    split at h
    · rename_i ns h1
      cases h
      refine ⟨ds, by unfold walkOf seqOf; simp only [e], .inl ⟨ns, q.intsOf h1, .inl ⟨ds, e⟩, fun ms p w => ?_⟩⟩
      have : ms = sortI ns := sorted_unique (p.trans (sortI_ok ns).1.symm) w (sortI_ok ns).2
      subst this
      exact k.lst (Rps.ints _)
    · obtain ⟨ws, h1, h2⟩ := ob_some h
      obtain ⟨h3, h4⟩ := gd_some h2
      cases h4
      refine ⟨ds, by unfold walkOf seqOf; simp only [e], .inr ⟨ws, q.strsOf h1, h3, fun ms p w => ?_⟩⟩
      have : ms = sortS ws := sortedS_unique (p.trans (sortS_ok ws).1.symm) (sortedS_pw w) (sortS_ok ws).2
      subst this
      exact k.lst (Rps.strs _)
  · refine rx.one (T := fun ds => pB _ ds S Q) fun d r => ?_
    obtain ⟨a, ds, rfl, e, q⟩ := r.dic
    split at h
    · rename_i ns h1
      obtain ⟨h3, h4⟩ := gd_some h
      cases h4
      refine ⟨ds.map fun kv => kD kv.1, by unfold walkOf; rcases e with e | e <;> simp only [e], .inl ⟨ns, q.keys.intsOf h1, .inr h3, fun ms p w => ?_⟩⟩
      have : ms = sortI ns := sorted_unique (p.trans (sortI_ok ns).1.symm) w (sortI_ok ns).2
      subst this
      exact k.lst (Rps.ints _)
    · obtain ⟨ws, h1, h2⟩ := ob_some h
      obtain ⟨h3, h4⟩ := gd_some h2
      cases h4
      refine ⟨ds.map fun kv => kD kv.1, by unfold walkOf; rcases e with e | e <;> simp only [e], .inr ⟨ws, q.keys.strsOf h1, h3, fun ms p w => ?_⟩⟩
      have : ms = sortS ws := sortedS_unique (p.trans (sortS_ok ws).1.symm) (sortedS_pw w) (sortS_ok ws).2
      subst this
      exact k.lst (Rps.strs _)
  · refine rx.one (T := fun ds => pB _ ds S Q) fun d r => ?_
    obtain ⟨a, ds, rfl, e, q⟩ := r.dic
    cases h
    show (match S a with | some (.dic kvs) => pNew (.dic kvs) S Q | some (.lck kvs) => pNew (.dic kvs) S Q | some (.lst u) => ∃ l ps, tupP u = some l ∧ pairsOf l = some ps ∧ pNew (.dic (mergeD [] ps)) S Q | _ => False)
    rcases e with e | e <;> rw [e] <;> exact k.dic q
  · refine rx.one (T := fun ds => pB _ ds S Q) fun d r => ?_
    obtain ⟨l, h1, h2⟩ := ob_some h
    obtain ⟨ps, h2a, h3⟩ := ob_some h2
    cases h3
    obtain ⟨a, ds, rfl, e, q⟩ := r.lst
    obtain ⟨dl, h4, q4⟩ := tupV_rp q h1
    obtain ⟨pd, h5, q5⟩ := pairs_rp q4 h2a
    show (match S a with | some (.dic kvs) => pNew (.dic kvs) S Q | some (.lck kvs) => pNew (.dic kvs) S Q | some (.lst u) => ∃ l ps, tupP u = some l ∧ pairsOf l = some ps ∧ pNew (.dic (mergeD [] ps)) S Q | _ => False)
    rw [e]
    exact ⟨dl, pd, h4, h5, k.dic (Rpk.merge q5 .nil)⟩
  · refine rx.one (T := fun ds => pB _ ds S Q) fun d r => ?_
    obtain ⟨ns, h1, h2⟩ := ob_some h
    cases h2
    obtain ⟨a, ds, rfl, e, q⟩ := r.lst
    exact ⟨ds, ns, e, q.intsOf h1, k.1 _ rfl (.int _)⟩
  · refine rx.one (T := fun ds => pB _ ds S Q) fun d r => ?_
    obtain ⟨ns, h1, h2⟩ := ob_some h
    obtain ⟨a, ds, rfl, e, q⟩ := r.lst
    cases hm : maxI ns with
    | none => rw [hm] at h2; cases h2
    | some m => rw [hm] at h2; cases h2; exact ⟨ds, ns, m, e, q.intsOf h1, maxI_ok hm, k.1 _ rfl (.int _)⟩
  · refine rx.one (T := fun ds => pB _ ds S Q) fun d r => ?_
    obtain ⟨ns, h1, h2⟩ := ob_some h
    obtain ⟨a, ds, rfl, e, q⟩ := r.lst
    cases hm : minI ns with
    | none => rw [hm] at h2; cases h2
    | some m => rw [hm] at h2; cases h2; exact ⟨ds, ns, m, e, q.intsOf h1, minI_ok hm, k.1 _ rfl (.int _)⟩
  · refine rx.one (T := fun ds => pB _ ds S Q) fun d r => ?_
    obtain ⟨ns, h1, h2⟩ := ob_some h
    cases h2
    obtain ⟨a, ds, rfl, e, q⟩ := r.lst
    exact ⟨ds, ns, e, q.blsOf h1, k.1 _ rfl (.bl _)⟩
  · refine rx.one (T := fun ds => pB _ ds S Q) fun d r => ?_
    obtain ⟨ns, h1, h2⟩ := ob_some h
    cases h2
    obtain ⟨a, ds, rfl, e, q⟩ := r.lst
    exact ⟨ds, ns, e, q.blsOf h1, k.1 _ rfl (.bl _)⟩
  · refine rx.one (T := fun ds => pB _ ds S Q) fun d r => ?_
    obtain ⟨p, h1, h2⟩ := ob_some h
    obtain ⟨⟨h3, h4, h5⟩, h6⟩ := gd_some h2
    cases h6
    exact ⟨p, r.pr h1, h3, h4, h5, k.1 _ rfl (.str _)⟩
  · cases h
theorem Ow.lst' {us : List Vl} {a : Addr} (o : Ow S U (.lst us) a) : ∃ ds, S a = some (.lst ds) ∧ Rps S U us ds := by
  cases o with
  | lst e r => exact ⟨_, e, r⟩
theorem Ow.dic' {us : List (L2.Key × Vl)} {a : Addr} (o : Ow S U (.dic us) a) : ∃ ds, (S a = some (.dic ds) ∨ S a = some (.lck ds)) ∧ Rpk S U us ds := by
  cases o with
  | dic e r => exact ⟨_, e, r⟩
theorem vMth_ok {m : Mt} {a : Addr} {ys : List Vl} {ds : List D} {r : Vl × Vl} (h : vMth m x ys = some r) (ox : Ow S U x a) (ry : Rps S U ys ds) :
    mTy m (.ref a) S ∧ ((∀ d o, Rp S U r.1 d → (∀ kd, o ≠ .lck kd) → (∀ S', S' a = some o → (∀ vs ds, Rps S U vs ds → Rps S' U vs ds) → Ow S' U r.2 a) → Q d (S.put a o)) → pM m (.ref a) ds S Q) := by
  unfold vMth at h
  split at h
  · obtain ⟨h1, h2⟩ := gd_some h
    cases h2
    obtain ⟨us, e, q⟩ := ox.lst'
    refine ⟨⟨_, e⟩, fun k => ?_⟩
    cases ry with
    | cons b c =>
      cases c
      unfold pM; simp only [e]
      exact ⟨by rw [← q.length]; exact h1, k _ _ .non (fun _ z => nomatch z) fun S' e' f => .lst e' (f _ _ (q.append (.cons b .nil)))⟩
  · obtain ⟨h1, h2⟩ := gd_some h
    cases h2
    obtain ⟨us, e, q⟩ := ox.lst'
    refine ⟨⟨_, e⟩, fun k => ?_⟩
    cases ry with
    | cons b c =>
      cases c
      obtain ⟨b2, es, rfl, e2, q2⟩ := Bw.lst (.inl b)
      unfold pM; simp only [e, e2]
      exact ⟨by rw [← q.length, ← q2.length]; exact h1, k _ _ .non (fun _ z => nomatch z) fun S' e' f => .lst e' (f _ _ (q.append q2))⟩
  · obtain ⟨y, h1, h2⟩ := ob_some h
    cases h2
    obtain ⟨us, e, q⟩ := ox.lst'
    refine ⟨⟨_, e⟩, fun k => ?_⟩
    cases ry
    obtain ⟨d, hd, rd⟩ := q.get h1
    unfold pM; simp only [e]
    exact ⟨d, by rw [← q.length]; exact hd, k _ _ rd (fun _ z => nomatch z) fun S' e' f => .lst e' (f _ _ q.dropLast)⟩
  · cases h
theorem vSet_ok {a : Addr} {x' : Vl} {T : Sto → Prop} (h : vSet x y z = some x') (ox : Ow S U x a) (nl : ∀ kd, S a ≠ some (.lck kd)) (ry : Bw S U y dy) (rz : Rp S U z d)
    (k : ∀ o, (∀ kd, o ≠ .lck kd) → (∀ S', S' a = some o → (∀ vs ds, Rps S U vs ds → Rps S' U vs ds) → (∀ vs ds, Rpk S U vs ds → Rpk S' U vs ds) → Ow S' U x' a) → T (S.put a o)) : pSet (.ref a) dy d S T := by
  unfold vSet at h
  split at h
  · obtain ⟨j, h1, h2⟩ := ob_some h
    cases h2
    obtain ⟨ds, e, q⟩ := ox.lst'
    cases ry.int
    unfold pSet; simp only [e]
    exact ⟨_, j, rfl, by rw [← q.length]; exact h1, k _ (fun _ z => nomatch z) fun S' e' f _ => .lst e' (f _ _ (q.set rz j))⟩
  · obtain ⟨key, h1, h2⟩ := ob_some h
    obtain ⟨h3, h4⟩ := gd_some h2
    cases h4
    obtain ⟨ds, e, q⟩ := ox.dic'
    have e := e.resolve_right (nl ds)
    unfold pSet; simp only [e]
    exact ⟨key, key_of h1 ry, by rw [← q.length]; exact h3, k _ (fun _ z => nomatch z) fun S' e' _ f => .dic (.inl e') (f _ _ (q.put key rz))⟩
  · cases h
theorem rg_rp (i j : Int) : Rps S U (rgVl i j) (rgOf i j) := by
  unfold rgVl rgOf
  generalize List.range (j - i).toNat = l
  induction l with
  | nil => exact .nil
  | cons n r ih => exact .cons (.int _) ih
theorem chars_rp : ∀ (l : List Nat), Rps S U (l.map fun c => Vl.str ⟨#[c]⟩) (l.map fun c => D.str ⟨#[c]⟩)
  | [] => .nil
  | c :: r => .cons (.str _) (chars_rp r)
theorem zip_rp : ∀ {u v : List Vl} {du dv : List D}, Rps S U u du → Rps S U v dv → Rps S U ((u.zip v).map fun p => .tup [p.1, p.2]) ((du.zip dv).map fun p => .tup [p.1, p.2])
  | _, _, _, _, .nil, _ => .nil
  | _, _, _, _, .cons a b, .nil => .nil
  | _, _, _, _, .cons a b, .cons c d => .cons (.tup (.cons a (.cons c .nil))) (zip_rp b d)
/-- what is walked; a dict under a name stands locked -/
theorem vItems_ok {kk : Ik} {xs items : List Vl} {ds : List D} (h : vItems kk xs = some items) (rx : Bws S U xs ds) (lk : ∀ a kd, ds = [.ref a] → S a ≠ some (.dic kd)) {T : List D → (Sto → Prop) → Prop}
    (k : ∀ u chk, Rps S U items u → (∀ S', (∀ a, .ref a ∈ ds → S' a = S a) → chk S') → T u chk) : pItK kk ds S T := by
  have lst : ∀ {us : List Vl} {d : D}, ds = [d] → Bw S U (.lst us) d → items = us → pIt d S T ∧ ∀ a kvs, d = .ref a → S a ≠ some (.lck kvs) := fun {us d} ed r e => by
    obtain ⟨a, ds', rfl, e1, q⟩ := r.lst
    refine ⟨?_, fun b kvs eb => by cases eb; rw [e1]; simp⟩
    show (match S a with | some (.lst u) => T u fun S => S a = some (.lst u) | some (.lck kvs) => T (kvs.map fun kv => kD kv.1) fun S => S a = some (.lck kvs) | _ => False)
    rw [e1]
    exact k _ _ (e ▸ q) fun S' f => (f a (by rw [ed]; simp)).trans e1
  unfold vItems at h
  split at h
  · refine rx.one (T := fun ds => pItK .val ds S T) fun d r => ?_
    obtain ⟨ds', rfl, q⟩ := r.tup; cases h
    exact ⟨(fun _ _ z => nomatch z), k _ _ q fun _ _ => trivial⟩
  · refine rx.one (T := fun ds => pItK .val ds S T) fun d r => ?_
    cases r.scr; cases h
    exact ⟨(fun _ _ z => nomatch z), k _ _ (Rps.ints _) fun _ _ => trivial⟩
  · refine rx.one (T := fun ds => pItK .val ds S T) fun d r => ?_
    cases r.str; cases h
    exact ⟨(fun _ _ z => nomatch z), k _ _ (chars_rp _) fun _ _ => trivial⟩
  · cases h
    cases rx with
    | cons r b =>
      cases b
      obtain ⟨h1, h2⟩ := lst rfl r rfl
      exact ⟨h2, h1⟩
  · refine rx.one (T := fun ds => pItK .nam ds S T) fun d r => ?_
    obtain ⟨ds', rfl, q⟩ := r.tup; cases h
    exact k _ _ q fun _ _ => trivial
  · refine rx.one (T := fun ds => pItK .nam ds S T) fun d r => ?_
    cases r.scr; cases h
    exact k _ _ (Rps.ints _) fun _ _ => trivial
  · refine rx.one (T := fun ds => pItK .nam ds S T) fun d r => ?_
    cases r.str; cases h
    exact k _ _ (chars_rp _) fun _ _ => trivial
  · cases h
    cases rx with
    | cons r b =>
      cases b
      exact (lst rfl r rfl).1
  · cases h
    cases rx with
    | cons r b =>
      cases b
      obtain ⟨a, kd, rfl, e, q⟩ := r.dic
      have e := e.resolve_left (lk a kd rfl)
      show (match S a with | some (.lst u) => T u fun S => S a = some (.lst u) | some (.lck kvs) => T (kvs.map fun kv => kD kv.1) fun S => S a = some (.lck kvs) | _ => False)
      rw [e]
      exact k _ _ q.keys fun S' f => (f a (by simp)).trans e
  · refine rx.one (T := fun ds => pItK .rng ds S T) fun d r => ?_
    cases r.int
    obtain ⟨h1, h2⟩ := gd_some h
    cases h2
    exact ⟨h1, k _ _ (rg_rp _ _) fun _ _ => trivial⟩
  · cases rx with
    | cons r b => cases b with
      | cons b c =>
        cases c; cases r.int; cases b.int
        obtain ⟨h1, h2⟩ := gd_some h
        cases h2
        exact ⟨h1, k _ _ (rg_rp _ _) fun _ _ => trivial⟩
  · cases h
    cases rx with
    | cons r b => cases b with
      | cons b c =>
        cases c
        obtain ⟨d1, rfl, q1⟩ := r.tup
        obtain ⟨d2, rfl, q2⟩ := b.tup
        exact k _ _ (zip_rp q1 q2) fun _ _ => trivial
  · cases h
    cases rx with
    | cons r b => cases b with
      | cons b c =>
        cases c
        obtain ⟨a1, d1, rfl, e1, q1⟩ := r.lst
        obtain ⟨a2, d2, rfl, e2, q2⟩ := b.lst
        show (match S a1, S a2 with | some (.lst u), some (.lst v) => T ((u.zip v).map fun p => .tup [p.1, p.2]) fun S => S a1 = some (.lst u) ∧ S a2 = some (.lst v) | _, _ => False)
        rw [e1, e2]
        exact k _ _ (zip_rp q1 q2) fun S' f => ⟨(f a1 (by simp)).trans e1, (f a2 (by simp)).trans e2⟩
  · cases h
theorem vLset_int (h : vLset x = some z) : ∃ m : Int, z = .int m := by
  unfold vLset at h
  split at h
  · unfold cnd at h
    split at h
    · obtain ⟨ns, h1, h2⟩ := ob_some h
      obtain ⟨h3, h4⟩ := gd_some h2
      cases h4; exact ⟨_, rfl⟩
    · obtain ⟨ns, h1, h2⟩ := ob_some h
      obtain ⟨h3, h4⟩ := gd_some h2
      cases h4; exact ⟨_, rfl⟩
  · obtain ⟨ns, h1, h2⟩ := ob_some h
    obtain ⟨h3, h4⟩ := gd_some h2
    cases h4; exact ⟨_, rfl⟩
  · cases h
theorem vLset_ok {m : Int} (h : vLset x = some (.int m)) (rx : Bw S U x dx) (k : Q (.int m) S) : (∃ ad u ns, dx = .ref ad ∧ S ad = some (.lst u) ∧ intsOf u = some ns ∧ ns.length ≤ 4000 ∧ Q (.int (dedup ns).length) S) ∨
    ∃ u ws, seqOf dx S = some u ∧ strsOf u = some ws ∧ ws.length ≤ 4000 ∧ Q (.int (dedup ws).length) S := by
  unfold vLset at h
  split at h
  · unfold cnd at h
    split at h
    · obtain ⟨ns, h1, h2⟩ := ob_some h
      obtain ⟨h3, h4⟩ := gd_some h2
      cases h4
      obtain ⟨a, ds, rfl, e, q⟩ := rx.lst
      exact .inl ⟨a, ds, ns, rfl, e, q.intsOf h1, h3, k⟩
    · obtain ⟨ws, h1, h2⟩ := ob_some h
      obtain ⟨h3, h4⟩ := gd_some h2
      cases h4
      obtain ⟨a, ds, rfl, e, q⟩ := rx.lst
      exact .inr ⟨ds, ws, by unfold seqOf; simp only [e], q.strsOf h1, h3, k⟩
  · obtain ⟨ws, h1, h2⟩ := ob_some h
    obtain ⟨h3, h4⟩ := gd_some h2
    cases h4
    obtain ⟨ds, rfl, q⟩ := rx.tup
    exact .inr ⟨ds, ws, rfl, q.strsOf h1, h3, k⟩
  · cases h
theorem vMx_ok {mx : Bool} (h : vMx mx x y = some z) (rx : Bw S U x dx) (ry : Rp S U y dy) (k : ∀ d, Rp S U z d → Q d S) : pMx mx dx dy S Q := by
  unfold vMx at h
  split at h
  · obtain ⟨ns, h1, h2⟩ := ob_some h
    obtain ⟨a, ds, rfl, e, q⟩ := rx.lst
    have h2 := Option.some.inj h2
    refine ⟨a, ds, ns, rfl, e, q.intsOf h1, fun en => ?_, fun m hm hle => ?_⟩
    · subst en
      refine k _ ?_
      cases mx <;> (rw [← h2]; exact ry)
    · have ex : (if mx = true then maxI ns else minI ns) = some m := by
        cases ns with
        | nil => cases hm
        | cons n r =>
          cases mx with
          | true =>
            obtain ⟨g1, g2⟩ := foldl_max r n
            exact congrArg some (Int.le_antisymm (by have := hle _ g1; simpa using this) (g2 m hm))
          | false =>
            obtain ⟨g1, g2⟩ := foldl_min r n
            exact congrArg some (Int.le_antisymm (g2 m hm) (by have := hle _ g1; simpa using this))
      rw [ex] at h2
      subst h2
      exact k _ (.int m)
  · cases h
theorem vZip_ok (h : vZip x y = some z) (rx : Bw S U x dx) (ry : Bw S U y dy) (k : Kf S U z Q) : pZip dx dy S fun u => u.length ≤ sizeLine ∧ pNew (.lst u) S Q := by
  unfold vZip at h
  split at h
  · obtain ⟨h1, h2⟩ := gd_some h
    cases h2
    obtain ⟨d1, rfl, q1⟩ := rx.tup
    obtain ⟨d2, rfl, q2⟩ := ry.tup
    have q := zip_rp q1 q2
    exact ⟨by rw [← q1.length, ← q2.length]; exact h1.1, by rw [← q.length, List.length_map]; exact h1.2, k.lst q⟩
  · cases h
theorem vJoin_ok (h : vJoin x y = some z) (rx : Bw S U x dx) (ry : Bw S U y dy) (k : ∀ d, Rp S U z d → Q d S) : pJoin dx dy S Q := by
  unfold vJoin at h
  split at h
  · obtain ⟨u, h1, h2⟩ := ob_some h
    obtain ⟨ys, h3, h4⟩ := ob_some h2
    obtain ⟨h5, h6⟩ := gd_some h4
    cases h6
    cases rx.str
    obtain ⟨ds, e, q⟩ := seq_rp h1 ry
    exact ⟨_, ds, ys, rfl, e, q.strsOf h3, h5, k _ (.str _)⟩
  · cases h
theorem vFmt_ok (h : vFmt x = some z) (rx : Bw S U x dx) (k : ∀ d, Rp S U z d → Q d S) : pFmt dx S Q := by
  unfold vFmt at h
  split at h
  · obtain ⟨h1, h2⟩ := gd_some h; cases h2; cases rx.str; exact .inl ⟨_, rfl, h1, k _ (.str _)⟩
  · obtain ⟨h1, h2⟩ := gd_some h; cases h2; cases rx.int; exact .inr ⟨_, rfl, h1, k _ (.str _)⟩
  · cases h
theorem Rps.map_flat : ∀ {vs : List Vl} {ds : List D}, vs.all Vl.flat = true → Rps S U vs ds → ∀ (m : Nat) (dd : D), ds[m]? = some dd → ∃ vv, vs[m]? = some vv ∧ dd.toV = vv.toV
  | _, _, _, .nil, m, dd, h => by simp at h
  | _, _, hf, .cons a b, 0, dd, h => by
    rw [List.all_cons, Bool.and_eq_true] at hf
    simp at h; subst h
    exact ⟨_, rfl, (flat_of hf.1 a).2⟩
  | _, _, hf, .cons a b, m + 1, dd, h => by
    rw [List.all_cons, Bool.and_eq_true] at hf
    obtain ⟨vv, h1, h2⟩ := Rps.map_flat hf.2 b m dd (by simpa using h)
    exact ⟨vv, by simpa using h1, h2⟩
theorem vpds_len : ∀ {vs : List Vl} {ps : List PyData}, vpds vs = some ps → vs.length = ps.length
  | [], ps, h => by cases h; rfl
  | v :: vs, ps, h => by
    unfold vpds at h
    split at h
    · rename_i p qs h1 h2; cases h; exact congrArg (· + 1) (vpds_len h2)
    · cases h
theorem mOk_ok {m : Mt} {a : Addr} (h : mOk m x = true) (e : ∃ u, S a = some (.lst u)) : mTy m (.ref a) S := by
  cases m with
  | get => cases h
  | _ => exact e
theorem mOk_lst {m : Mt} (h : mOk m x = true) : ∃ u, x = .lst u := by
  cases m <;> cases x <;> first | exact ⟨_, rfl⟩ | cases h
theorem vIndex_ok {ys : List Vl} {ds : List D} (h : vIndex x ys = some z) (rx : Bw S U x dx) (ry : Rps S U ys ds) (k : ∀ d, Rp S U z d → Q d S) : pM .index dx ds S Q := by
  unfold vIndex at h
  split at h
  · rename_i u y
    obtain ⟨a, du, rfl, e, q⟩ := rx.lst
    cases ry with
    | cons ry rn =>
      cases rn
      unfold pM; simp only [e]
      cases hf : (y.flat && u.all Vl.flat) with
      | true =>
        rw [hf] at h
        have h : ((u.findIdx? fun z => L2.eqV z.toV y.toV).map fun j => Vl.int (j : Nat)) = some z := h
        rw [Bool.and_eq_true] at hf
        cases hj : u.findIdx? fun z => L2.eqV z.toV y.toV with
        | none => rw [hj] at h; cases h
        | some j =>
          rw [hj] at h; cases h
          obtain ⟨hl, h1, h2⟩ := List.findIdx?_eq_some_iff_getElem.mp hj
          obtain ⟨f1, f2⟩ := flat_of hf.1 ry
          obtain ⟨g1, _⟩ := flats_of hf.2 q
          obtain ⟨dj, hd, _⟩ := q.get (List.getElem?_eq_getElem hl)
          obtain ⟨vv, hv, ev⟩ := q.map_flat hf.2 j dj hd
          rw [List.getElem?_eq_getElem hl] at hv; cases hv
          refine ⟨j, dj, hd, .inl ⟨f1, g1, by rw [ev, f2]; exact h1, fun m z' hm hz => ?_⟩, k _ (.int _)⟩
          obtain ⟨v2, hv2, e2⟩ := q.map_flat hf.2 m z' hz
          obtain ⟨hl2, hv3⟩ := List.getElem?_eq_some_iff.mp hv2
          have := h2 m hm
          rw [e2, f2, ← hv3]
          simpa using this
      | false =>
        rw [hf] at h
        obtain ⟨p, hp, h⟩ := ob_some (show ob (vpd y) _ = some z from h)
        obtain ⟨ps, hq, h⟩ := ob_some h
        obtain ⟨⟨s1, s2⟩, h⟩ := gd_some h
        cases hj : ps.findIdx? fun q => PyData.eqv q p with
        | none => rw [hj] at h; cases h
        | some j =>
          rw [hj] at h; cases h
          obtain ⟨hl, h1, h2⟩ := List.findIdx?_eq_some_iff_getElem.mp hj
          have hl' : j < u.length := by rw [vpds_len hq]; exact hl
          obtain ⟨dj, hd, _⟩ := q.get (List.getElem?_eq_getElem hl')
          refine ⟨j, dj, hd, .inr ⟨p, ps, ps[j], ry.pd hp, q.pd hq, s1, s2, List.getElem?_eq_getElem hl, h1, fun m q' hm hz => ?_⟩, k _ (.int _)⟩
          obtain ⟨hl2, hv3⟩ := List.getElem?_eq_some_iff.mp hz
          have := h2 m hm
          rw [← hv3]
          simpa using this
  · cases h
end
end Mp

namespace Mp
open PySem

/-! ## expressions -/
structure Step (κ : List Kd) (σ : Sl) (env : Env) (S : Sto) (U : Addr → Prop) (env' : Env) (S' : Sto) (U' : Addr → Prop) : Prop where
  inv : Inv κ env' σ S' U'
  fm : Fm (Ad κ env σ) S U S' U'
  mo : Mo κ env env'
/-- some of one's own is lent -/
def Lt (κ κ1 : List Kd) : Prop := ∀ i, kat κ1 i = kat κ i ∨ ((kat κ i).ow = true ∧ kat κ1 i = .bor)
section
variable {S S' S1 S2 : Sto} {U U' U1 U2 : Addr → Prop} {P P1 : Addr → Prop} {κ κ1 κ2 : List Kd} {env env' env1 env2 : Env} {σ σ' : Sl} {v w : Vl} {d e : D}
theorem kat_set {i : Nat} {c : Kd} (h : (kat κ i).ow = true) (j : Nat) : kat (κ.set i c) j = if j = i then c else kat κ j := by
  unfold kat at *
  by_cases hi : i < κ.length
  · by_cases e : j = i
    · subst e; rw [List.getElem?_set_self hi]; simp
    · rw [List.getElem?_set_ne (Ne.symm e), if_neg e]
  · rw [List.getElem?_eq_none (by omega)] at h; cases h
theorem Lt.refl : Lt κ κ := fun _ => .inl rfl
theorem Lt.trans (a : Lt κ κ1) (b : Lt κ1 κ2) : Lt κ κ2 := fun i => by
  rcases a i with a | ⟨a1, a2⟩
  · rcases b i with b | ⟨b1, b2⟩
    · exact .inl (b.trans a)
    · exact .inr ⟨a ▸ b1, b2⟩
  · rcases b i with b | ⟨b1, b2⟩
    · exact .inr ⟨a1, b.trans a2⟩
    · rw [a2] at b1; cases b1
theorem Lt.bor {i : Nat} (h : (kat κ i).ow = true) : Lt κ (κ.set i .bor) := fun j => by
  rw [kat_set h]
  by_cases e : j = i
  · subst e; rw [if_pos rfl]; exact .inr ⟨h, rfl⟩
  · rw [if_neg e]; exact .inl rfl
theorem Lt.ow (l : Lt κ κ1) {i : Nat} (h : (kat κ1 i).ow = true) : kat κ i = kat κ1 i := by
  rcases l i with a | ⟨_, a⟩
  · exact a.symm
  · rw [a] at h; cases h
theorem Lt.ad (l : Lt κ κ1) {a : Addr} (h : Ad κ1 env σ a) : Ad κ env σ a := by
  obtain ⟨i, v, h1, h2, h3⟩ := h
  exact ⟨i, v, by rw [l.ow h1]; exact h1, h2, h3⟩
theorem Lt.mo (l : Lt κ κ1) (m : Mo κ1 env env') : Mo κ env env' := ⟨m.len, fun i h => m.same i (by
  rcases l i with a | ⟨a, _⟩
  · rw [a]; exact h
  · rw [h] at a; cases a), m.less⟩
theorem Lt.inv (l : Lt κ κ1) (i : Inv κ env σ S U) : Inv κ1 env σ S U := by
  refine ⟨i.len, i.dom, fun j v h => ?_, fun a b v w h1 h2 h3 h4 h5 => i.dis a b v w (by rw [l.ow h1]; exact h1) (fun z => h2 ?_) h3 h4 h5, fun a b v x h1 h2 h3 h4 h5 => i.dio a b v x (by rw [l.ow h1]; exact h1) (by rw [l.ow (by rw [h2]; rfl)]; exact h2) h3 h4 h5, fun a x h1 h2 => i.alv a x (by rw [l.ow (by rw [h1]; rfl)]; exact h1) h2⟩
  · obtain ⟨d, h1, h2⟩ := i.rel j v h
    refine ⟨d, h1, ?_⟩
    rcases l j with e | ⟨e1, e2⟩
    · rw [e]; exact h2
    · rw [e2]; rw [own_of e1] at h2; exact Owx.bw h2
  · rcases l b with e | ⟨e1, _⟩
    · rw [e]; exact z
    · rw [z] at e1; cases e1
theorem Lt.back (l : Lt κ κ1) (i : Inv κ env σ S U) (s : Step κ1 σ env S U env2 S2 U2) : Step κ σ env S U env2 S2 U2 := by
  have hP : ∀ b, Ad κ1 env σ b → U b := fun b h => i.ad (l.ad h)
  refine ⟨⟨s.inv.len, s.inv.dom, fun j v h => ?_, fun a b v w h1 h2 h3 h4 h5 => ?_, fun a b v x h1 h2 h3 h4 h5 => (let ⟨v', g⟩ := s.mo.less a v h4; i.dio a b v' x h1 h2 h3 g h5), fun a x h1 h2 => s.fm.alive x (i.alv a x h1 h2)⟩, s.fm.wide fun b h => l.ad h, l.mo s.mo⟩
  · rcases l j with e | ⟨e1, e2⟩
    · rw [← e]; exact s.inv.rel j v h
    · rw [s.mo.same j (by rw [e2]; rfl)] at h
      obtain ⟨d, h1, h2⟩ := i.rel j v h
      refine ⟨d, h1, ?_⟩
      refine SlotR.fm s.fm hP (fun _ a ea ⟨j', w, g1, g2, g3⟩ => ?_) h2
      subst ea
      have ne : j' ≠ j := fun c => by subst c; rw [e2] at g1; cases g1
      exact i.dis j' j w v (by rw [l.ow g1]; exact g1) (ow_ne e1).1 ne g2 h a g3 h1
  · obtain ⟨v', g1⟩ := s.mo.less a v h4
    obtain ⟨w', g2⟩ := s.mo.less b w h5
    exact i.dis a b v' w' h1 h2 h3 g1 g2
theorem Step.refl (i : Inv κ env σ S U) : Step κ σ env S U env S U := ⟨i, .refl, .refl⟩
theorem Step.trans (i : Inv κ env σ S U) (a : Step κ σ env S U env1 S1 U1) (b : Step κ σ env1 S1 U1 env2 S2 U2) : Step κ σ env S U env2 S2 U2 :=
  ⟨b.inv, Fm.trans i.dom (fun x h => .inl (a.mo.ad h)) a.fm b.fm, a.mo.trans b.mo⟩
theorem Step.lent (i : Inv κ env σ S U) (a : Step κ σ env S U env1 S1 U1) (l : Lt κ κ1) (b : Step κ1 σ env1 S1 U1 env2 S2 U2) : Step κ σ env S U env2 S2 U2 :=
  a.trans i (l.back a.inv b)
theorem Bw.step (i : Inv κ env σ S U) (s : Step κ σ env S U env' S' U') (n : ∀ a, d = .ref a → ¬ Ad κ env σ a) (h : Bw S U v d) : Bw S' U' v d ∧ ∀ a, d = .ref a → ¬ Ad κ env' σ a :=
  ⟨h.fm s.fm (fun b h => i.ad h) n, fun a e z => n a e (s.mo.ad z)⟩
theorem Rp.step (i : Inv κ env σ S U) (s : Step κ σ env S U env' S' U') (h : Rp S U v d) : Rp S' U' v d := h.fm s.fm fun b h => i.ad h
theorem Rps.step (i : Inv κ env σ S U) (s : Step κ σ env S U env' S' U') {vs : List Vl} {ds : List D} (h : Rps S U vs ds) : Rps S' U' vs ds := h.fm s.fm fun b h => i.ad h
theorem Rpk.step (i : Inv κ env σ S U) (s : Step κ σ env S U env' S' U') {vs : List (L2.Key × Vl)} {ds : List (L2.Key × D)} (h : Rpk S U vs ds) : Rpk S' U' vs ds := h.fm s.fm fun b h => i.ad h
theorem Rp.noad (i : Inv κ env σ S U) (h : Rp S U v d) : ∀ a, d = .ref a → ¬ Ad κ env σ a := fun a e z => by
  subst e
  have u := i.ad z
  cases h with
  | lst n _ _ => exact n u
  | dic n _ _ => exact n u
theorem Bw.alive (dom : ∀ a, U a → S a ≠ none) {a : Addr} (h : Bw S U v (.ref a)) : S a ≠ none := by
  rcases h with h | ⟨b, e, u, _⟩
  · cases h with
    | lst _ e _ => rw [e]; simp
    | dic _ e _ => rcases e with e | e <;> rw [e] <;> simp
  · cases e; exact dom _ u
theorem Inv.alive (i : Inv κ env σ S U) {j : Nat} {a : Addr} (h : env[j]? = some (some v)) (hs : σ[j]? = some (some (.ref a))) : S a ≠ none := by
  obtain ⟨d, h1, h2⟩ := i.rel j v h
  rw [hs] at h1
  have h1 := Option.some.inj (Option.some.inj h1)
  subst h1
  refine Bw.alive (v := v) i.dom ?_
  cases hk : kat κ j <;> rw [hk] at h2
  · exact .inl h2
  · exact Owx.bw h2
  · exact Owx.bw h2
  · exact h2
/-- a new object -/
theorem Step.new (i : Inv κ env σ S U) {a : Addr} (h : S a = none) (o : Ob) : Step κ σ env S U env (S.put a o) (fun b => U b ∨ b = a) := by
  have f : Fm (Ad κ env σ) S U (S.put a o) (fun b => U b ∨ b = a) := fm_new h o
  refine ⟨i.fm (P := fun _ => False) (fm_new h o) (fun b hb => ?_) (fun _ z => z.elim) fun _ _ _ _ _ _ z => z, f, .refl⟩
  by_cases e : b = a
  · subst e; rw [put_same]; simp
  · rw [put_ne e]; exact i.dom b (hb.resolve_right e)
/-- one's own is changed -/
theorem Step.mut (i : Inv κ env σ S U) {j : Nat} {a : Addr} {x x' : Vl} {o : Ob} (nl : ∀ kd, o ≠ .lck kd) (hj : (kat κ j).ow = true) (he : env[j]? = some (some x)) (hs : σ[j]? = some (some (.ref a)))
    (own : (∀ vs ds, Rps S U vs ds → Rps (S.put a o) U vs ds) → (∀ vs ds, Rpk S U vs ds → Rpk (S.put a o) U vs ds) → Ow (S.put a o) U x' a) : Step κ σ env S U (env.set j (some x')) (S.put a o) U := by
  have ada : Ad κ env σ a := ⟨j, x, hj, he, hs⟩
  have ua := i.ad ada
  have f : Fm (fun b => b = a) S U (S.put a o) U := ⟨fun b _ n => put_ne n, fun b hb => by
    by_cases e : b = a
    · subst e; rw [put_same]; simp
    · rw [put_ne e]; exact hb, fun b h => .inl h, fun b h _ => h⟩
  have hP : ∀ b, b = a → U b := fun b e => by subst e; exact ua
  have hl : j < env.length := (List.getElem?_eq_some_iff.mp he).1
  refine ⟨⟨by rw [List.length_set]; exact i.len, fun b hb => f.alive b (i.dom b hb), fun k v h => ?_, fun p q v w h1 h2 h3 h4 h5 => ?_, fun p q v b h1 h2 h3 h4 h5 => ?_, fun p b h1 h2 => f.alive b (i.alv p b h1 h2)⟩, f.wide fun b e => by subst e; exact ada, ⟨List.length_set .., fun k hk => ?_, fun k w h => ?_⟩⟩
  · by_cases e : j = k
    · subst e
      rw [List.getElem?_set_self hl] at h
      cases h
      exact ⟨_, hs, by rw [own_of hj]; exact .inl ⟨⟨a, rfl, ua, own (fun vs ds r => r.fm f hP) fun vs ds r => r.fm f hP⟩, fun b kd e => by cases e; rw [put_same]; exact fun z => nl kd (Option.some.inj z)⟩⟩
    · rw [List.getElem?_set_ne e] at h
      obtain ⟨d, h1, h2⟩ := i.rel k v h
      refine ⟨d, h1, SlotR.fm f hP (fun hk b eb z => ?_) h2⟩
      subst eb z
      exact i.dis j k x v hj hk e he h b hs h1
  · have pres : ∀ (k : Nat) (u : Vl), (env.set j (some x'))[k]? = some (some u) → ∃ u' : Vl, env[k]? = some (some u') := fun k u hk => by
      by_cases e : j = k
      · subst e; exact ⟨x, he⟩
      · rw [List.getElem?_set_ne e] at hk; exact ⟨u, hk⟩
    obtain ⟨v', g1⟩ := pres p v h4
    obtain ⟨w', g2⟩ := pres q w h5
    exact i.dis p q v' w' h1 h2 h3 g1 g2
  · by_cases e : j = p
    · subst e; exact i.dio j q x b h1 h2 h3 he h5
    · rw [List.getElem?_set_ne e] at h4; exact i.dio p q v b h1 h2 h3 h4 h5
  · exact List.getElem?_set_ne fun c => by subst c; rw [hj] at hk; cases hk
  · by_cases e : j = k
    · subst e; exact ⟨x, he⟩
    · rw [List.getElem?_set_ne e] at h; exact ⟨w, h⟩
/-- one's own is given away -/
theorem Step.move (i : Inv κ env σ S U) {j : Nat} (hj : (kat κ j).ow = true) : Step κ σ env S U (env.set j none) S U := by
  have sub : ∀ {k : Nat} {v : Vl}, (env.set j none)[k]? = some (some v) → env[k]? = some (some v) ∧ k ≠ j := fun {k v} h => by
    by_cases e : j = k
    · subst e
      by_cases hl : j < env.length
      · rw [List.getElem?_set_self hl] at h; cases h
      · rw [List.getElem?_eq_none (by simp; omega)] at h; cases h
    · rw [List.getElem?_set_ne e] at h; exact ⟨h, Ne.symm e⟩
  refine ⟨⟨by rw [List.length_set]; exact i.len, i.dom, fun k v h => i.rel k v (sub h).1, fun p q v w h1 h2 h3 h4 h5 => i.dis p q v w h1 h2 h3 (sub h4).1 (sub h5).1, fun p q v b h1 h2 h3 h4 h5 => i.dio p q v b h1 h2 h3 (sub h4).1 h5, i.alv⟩, .refl, ⟨List.length_set .., fun k hk => ?_, fun k w h => ⟨w, (sub h).1⟩⟩⟩
  exact List.getElem?_set_ne fun c => by subst c; rw [hj] at hk; cases hk
end
/-- what follows -/
def KE (κ : List Kd) (σ : Sl) (env : Env) (S : Sto) (U : Addr → Prop) (fr : Bool) (k : Vl → Env → Option Rt) (out : Rt) (Q : Post) : Prop :=
  ∀ v env' d S' U', k v env' = some out → Step κ σ env S U env' S' U' → Res κ fr env' σ S (Ad κ env σ) S' U' v d → Q d S'
section
variable {S S' S1 S2 : Sto} {U U' U1 U2 : Addr → Prop} {κ κ1 κ2 : List Kd} {env env' env1 env2 : Env} {σ σ' : Sl} {v w z : Vl} {d e : D} {fr : Bool} {k : Vl → Env → Option Rt} {out : Rt} {Q : Post}
theorem KE.rp (K : KE κ σ env S U fr k out Q) (h : k z env2 = some out) (s : Step κ σ env S U env2 S2 U2) (m : fr = true → z.mut = false) (r : Rp S2 U2 z d) : Q d S2 := K z env2 d S2 U2 h s (.inl ⟨r, m⟩)
theorem KE.kf (K : KE κ σ env S U fr k out Q) (i : Inv κ env σ S U) (h : k z env2 = some out) (s : Step κ σ env S U env2 S2 U2) : Kf S2 U2 z Q := by
  refine ⟨fun d m r => K.rp h s (fun _ => m) r, fun a o ha nl ow => ?_⟩
  have s2 := s.trans i (Step.new s.inv ha o)
  refine K z env2 _ _ _ h s2 (.inr ⟨a, rfl, .inr rfl, ow, .inl (Classical.byContradiction fun c => s.fm.alive a c ha), fun j w hw hk hs => s.inv.alive hw hs ha, fun j hk hs => s.inv.alv j a hk hs ha, fun kd => by rw [put_same]; exact fun z => nl kd (Option.some.inj z)⟩)
theorem KE.mono (K : KE κ σ env S U fr k out Q) (i : Inv κ env σ S U) {fr2 : Bool} (hf : fr = true → fr2 = true) (s : Step κ σ env S U env1 S1 U1) : KE κ σ env1 S1 U1 fr2 k out Q := fun v env' d S' U' h s2 r => by
  refine K v env' d S' U' h (s.trans i s2) ?_
  rcases r with ⟨r, m⟩ | ⟨a, e, u, o, nw, no, nio, nl⟩
  · exact .inl ⟨r, fun z => m (hf z)⟩
  · refine .inr ⟨a, e, u, o, ?_, no, nio, nl⟩
    rcases nw with c | c
    · exact .inl (Classical.byContradiction fun x => s.fm.alive a x c)
    · exact .inr (s.mo.ad c)
theorem Res.shareS (i : Inv κ env σ S U) (s : Step κ σ env S U env' S' U') (r : Res κ fr env' σ S (Ad κ env σ) S' U' v d) : ∃ U2, Step κ σ env S U env' S' U2 ∧ Rp S' U2 v d := by
  obtain ⟨U2, h1, h2, h3⟩ := r.share s.inv s.fm i.dom
  exact ⟨U2, ⟨h1, h2, s.mo⟩, h3⟩
end
end Mp

namespace Mp
open PySem

/-! ## what a call keeps -/
structure CalOk (P : Pr) (C : Cal) (Wc : Callee) : Prop where
  run : ∀ (f : Str) (vs : List Vl) (r : Vl) (outs : List (Option Vl)), C f vs = some (r, outs) → ∀ (ds : List D) (S : Sto) (U : Addr → Prop) (X : XPost) (Q : Post), (∀ b, U b → S b ≠ none) → vs.length = ds.length →
    (∀ i v d, vs[i]? = some v → ds[i]? = some d → SlotR (kat (P.K f) i) S U v d) →
    (∀ i j a, (kat (P.K f) i).ow = true → kat (P.K f) j ≠ .shr → i ≠ j → ds[i]? = some (.ref a) → ds[j]? ≠ some (.ref a)) →
    (∀ d S' U', (∀ b, U' b → S' b ≠ none) → Fm (fun a => ∃ i, (kat (P.K f) i).ow = true ∧ ds[i]? = some (.ref a)) S U S' U' →
      (∀ i w dd, (kat (P.K f) i).ow = true → outs[i]? = some (some w) → ds[i]? = some dd → Owx S' U' w dd) →
      ((Rp S' U' r d ∧ (P.R f = true → r.mut = false)) ∨ ∃ a, d = .ref a ∧ U' a ∧ Ow S' U' r a ∧ S a = none ∧ ∀ kd, S' a ≠ some (.lck kd)) → Q d S') → Wc f ds S X Q
section
variable {P : Pr} {C : Cal} {Wc : Callee}
variable (P C Wc) in
def IHe (e : E) : Prop := ∀ (κ : List Kd) (env : Env) (k : Vl → Env → Option Rt) (out : Rt) (σ : Sl) (S : Sto) (U : Addr → Prop) (X : XPost) (Q : Post), pe C P e κ env k = some out → Inv κ env σ S U → KE κ σ env S U (fresh P.R κ e) k out Q → wpE Wc P.G e σ S X Q
variable (P C Wc) in
def IHs (es : List E) : Prop := ∀ (κ : List Kd) (env : Env) (k : List Vl → Env → Option Rt) (out : Rt) (σ : Sl) (S : Sto) (U : Addr → Prop) (X : XPost) (T : List D → Sto → Prop), pes C P es κ env k = some out → Inv κ env σ S U →
  (∀ vs env' ds S' U', k vs env' = some out → Step κ σ env S U env' S' U' → Rps S' U' vs ds → T ds S') → wpEs Wc P.G es σ S X T
variable (P C Wc) in
def IHb (es : List E) : Prop := ∀ (κ : List Kd) (env : Env) (k : List Vl → List Kd → Env → Option Rt) (out : Rt) (σ : Sl) (S : Sto) (U : Addr → Prop) (X : XPost) (T : List D → Sto → Prop), pbs C P es κ env k = some out → Inv κ env σ S U →
  (∀ vs κ1 env' ds S' U', k vs κ1 env' = some out → Lt κ κ1 → Step κ σ env S U env' S' U' → Bws S' U' vs ds → (∀ d, d ∈ ds → ∀ a, d = .ref a → ¬ Ad κ1 env' σ a) → T ds S') → wpEs Wc P.G es σ S X T
variable {S S' S1 S2 : Sto} {U U' U1 U2 : Addr → Prop} {κ κ1 κ2 : List Kd} {env env' env1 env2 : Env} {σ σ' : Sl} {v w z : Vl} {d : D} {out : Rt} {Q : Post} {X : XPost} {a b c e : E}
theorem slotE_some {e : E} {i : Nat} (h : slotE e = some i) : e = .v i := by
  unfold slotE at h
  split at h
  · cases h; rfl
  · cases h
theorem get2 {α : Type} {o : Option (Option Vl)} {f : Vl → Option α} {r : α} (h : (match o with
  | some (some v) => f v
  | _ => none) = some r) : ∃ v, o = some (some v) ∧ f v = some r := by
  split at h
  · rename_i v; exact ⟨v, rfl, h⟩
  · cases h
theorem cnd_some {α : Type} {b : Bool} {x : Option α} {r : α} (h : cnd b x none = some r) : b = true ∧ x = some r := by
  cases b with
  | true => exact ⟨rfl, h⟩
  | false => cases h
theorem SlotR.bw {c : Kd} (h : SlotR c S U v d) : Bw S U v d := by
  cases c with
  | shr => exact .inl h
  | bor => exact h
  | own => exact Owx.bw h
  | io => exact Owx.bw h
theorem pb_ok {e : E} (ih : IHe P C Wc e) {k : Vl → List Kd → Env → Option Rt} (h : pb e (pe C P e) κ env k = some out) (i : Inv κ env σ S U)
    (K : ∀ v κ1 env' d S' U', k v κ1 env' = some out → Lt κ κ1 → Step κ σ env S U env' S' U' → Bw S' U' v d → (∀ a, d = .ref a → ¬ Ad κ1 env' σ a) → Q d S') : wpE Wc P.G e σ S X Q := by
  unfold pb at h
  split at h
  · rename_i j hj
    have e1 := slotE_some hj
    subst e1
    obtain ⟨v, hv, h⟩ := get2 h
    obtain ⟨d, hd, r⟩ := i.rel j v hv
    simp only [wpE]
    refine ⟨d, hd, ?_⟩
    cases ho : (kat κ j).ow with
    | true =>
      rw [ho] at h
      refine K v (κ.set j .bor) env d S U h (Lt.bor ho) (.refl i) r.bw fun a e ⟨j', w, g1, g2, g3⟩ => ?_
      subst e
      have ne : j' ≠ j := fun c => by subst c; rw [kat_set ho, if_pos rfl] at g1; cases g1
      rw [kat_set ho, if_neg ne] at g1
      exact i.dis j' j w v g1 (ow_ne ho).1 ne g2 hv a g3 hd
    | false =>
      rw [ho] at h
      refine K v κ env d S U h .refl (.refl i) r.bw fun a e ⟨j', w, g1, g2, g3⟩ => ?_
      subst e
      have ne : j' ≠ j := fun c => by subst c; rw [ho] at g1; cases g1
      cases hk : kat κ j with
      | shr =>
        rw [hk] at r
        exact Rp.noad i r a rfl ⟨j', w, g1, g2, g3⟩
      | bor => exact i.dis j' j w v g1 (by rw [hk]; decide) ne g2 hv a g3 hd
      | own => rw [hk] at ho; cases ho
      | io => rw [hk] at ho; cases ho
  · refine ih κ env _ out σ S U X Q h i fun v env' d S' U' hk s r => ?_
    obtain ⟨U2, s2, r2⟩ := r.shareS i s
    exact K v κ env' d S' U2 hk .refl s2 (.inl r2) (r2.noad s2.inv)
/-- two operands -/
theorem pb2_ok {a b : E} (iha : IHe P C Wc a) (ihb : IHe P C Wc b) {k : Vl → Vl → List Kd → Env → Option Rt} (h : (pb a (pe C P a) κ env fun x κ1 env => pb b (pe C P b) κ1 env fun y κ2 env => k x y κ2 env) = some out) (i : Inv κ env σ S U) {T : D → D → Sto → Prop}
    (K : ∀ x y κ1 env' dx dy S' U', k x y κ1 env' = some out → Lt κ κ1 → Step κ σ env S U env' S' U' → Bw S' U' x dx → Bw S' U' y dy → (∀ a, dx = .ref a → ¬ Ad κ1 env' σ a) → (∀ a, dy = .ref a → ¬ Ad κ1 env' σ a) → T dx dy S') :
    wpE Wc P.G a σ S X fun x S1 => wpE Wc P.G b σ S1 X fun y S2 => T x y S2 := by
  refine pb_ok iha h i fun x κ1 env1 dx S1 U1 h1 l1 s1 b1 n1 => pb_ok ihb h1 (l1.inv s1.inv) fun y κ2 env2 dy S2 U2 h2 l2 s2 b2 n2 => ?_
  obtain ⟨b1', n1'⟩ := b1.step (l1.inv s1.inv) s2 n1
  exact K x y κ2 env2 dx dy S2 U2 h2 (l1.trans l2) (s1.lent i l1 s2) b1' b2 (fun a e z => n1' a e (l2.ad z)) n2
theorem ok_non : IHe P C Wc .non := fun κ env k out σ S U X Q h i K => by simp only [pe, wpE] at *; exact K.rp h (.refl i) (fun _ => rfl) .non
theorem ok_bl {t : Bool} : IHe P C Wc (.bl t) := fun κ env k out σ S U X Q h i K => by simp only [pe, wpE] at *; exact K.rp h (.refl i) (fun _ => rfl) (.bl t)
theorem ok_int {t : Int} : IHe P C Wc (.int t) := fun κ env k out σ S U X Q h i K => by simp only [pe, wpE] at *; exact K.rp h (.refl i) (fun _ => rfl) (.int t)
theorem ok_str {t : Str} : IHe P C Wc (.str t) := fun κ env k out σ S U X Q h i K => by simp only [pe, wpE] at *; exact K.rp h (.refl i) (fun _ => rfl) (.str t)
theorem ok_v {j : Nat} : IHe P C Wc (.v j) := fun κ env k out σ S U X Q h i K => by
  simp only [pe, wpE] at *
  obtain ⟨v, hv, h⟩ := get2 (show (match env[j]? with
    | some (some v) => (match kat κ j with
      | .shr => k v env
      | .own => k v (env.set j none)
      | .io => none
      | .bor => none)
    | _ => none) = some out from h)
  obtain ⟨d, hd, r⟩ := i.rel j v hv
  refine ⟨d, hd, ?_⟩
  cases hk : kat κ j with
  | shr =>
    rw [hk] at h r
    exact K.rp h (.refl i) (fun z => by unfold fresh at z; rw [hk] at z; cases z) r
  | own =>
    rw [hk] at h r
    have ho : (kat κ j).ow = true := by rw [hk]; rfl
    rcases r with r | ⟨m, r⟩
    case inr => exact K v _ _ S U h (Step.move i ho) (.inl ⟨r, fun _ => m⟩)
    obtain ⟨⟨a, rfl, u, o⟩, nl⟩ := r
    refine K v _ _ S U h (Step.move i ho) (.inr ⟨a, rfl, u, o, .inr ⟨j, v, ho, hv, hd⟩, fun p w hp hkp hs => ?_, fun p hkp hs => ?_, fun kd => nl a kd rfl⟩)
    · by_cases e : j = p
      · subst e
        rw [List.getElem?_set_self ((List.getElem?_eq_some_iff.mp hv).1)] at hp; cases hp
      · rw [List.getElem?_set_ne e] at hp
        exact i.dis j p v w ho hkp e hv hp a hd hs
    · exact i.dio j p v a ho hkp (fun c => by subst c; rw [hk] at hkp; cases hkp) hv hd hs
  | io => rw [hk] at h; cases h
  | bor => rw [hk] at h; cases h
theorem ok_g {x : Str} : IHe P C Wc (.g x) := fun κ env k out σ S U X Q h i K => by
  simp only [pe, wpE] at *
  obtain ⟨z, hz, h⟩ := ob_some h
  exact ⟨z, hz, K.rp h (.refl i) (fun _ => rfl) (.str z)⟩
theorem ok_bin {o : Operator} (iha : IHe P C Wc a) (ihb : IHe P C Wc b) : IHe P C Wc (.bin o a b) := fun κ env k out σ S U X Q h i K => by
  simp only [pe, wpE] at *
  refine pb2_ok iha ihb h i fun x y κ1 env' dx dy S' U' h1 l1 s1 b1 b2 _ _ => ?_
  obtain ⟨z, hz, h2⟩ := ob_some h1
  exact vBin_ok hz b1 b2 (K.kf i h2 s1)
theorem int_of {t : Vl} (h : vNeg v = some t) (r : Bw S U v d) : ∃ j, d = .int j ∧ t = .int (-j) := by
  cases v <;> try (cases h; done)
  cases r.int; cases h; exact ⟨_, rfl, rfl⟩
theorem bl_of {t : Bool} (h : vBool v = some t) (r : Bw S U v d) : d = .bl t := by
  cases v <;> try (cases h; done)
  cases h; exact r.bl
theorem Res.bw {fr : Bool} {S0 : Sto} {P0 : Addr → Prop} (h : Res κ fr env σ S0 P0 S U v d) : Bw S U v d := by
  rcases h with ⟨h, _⟩ | ⟨a, e, u, o, _⟩
  · exact .inl h
  · exact .inr ⟨a, e, u, o⟩
/-- a part that is read as a truth value -/
theorem tst_ok (ih : IHe P C Wc a) {k : Bool → Env → Option Rt} (h : (pe C P a κ env fun x env => ob (vBool x) fun c => k c env) = some out) (i : Inv κ env σ S U) {T : Bool → Sto → Prop} (K : ∀ c env' S' U', k c env' = some out → Step κ σ env S U env' S' U' → T c S') :
    wpE Wc P.G a σ S X fun d S1 => ∃ c, d = .bl c ∧ T c S1 := by
  refine ih κ env _ out σ S U X _ h i fun v env' d S' U' h1 s1 r1 => ?_
  obtain ⟨c, hc, h2⟩ := ob_some h1
  exact ⟨c, bl_of hc r1.bw, K c env' S' U' h2 s1⟩
theorem ok_neg (iha : IHe P C Wc a) : IHe P C Wc (.neg a) := fun κ env k out σ S U X Q h i K => by
  simp only [pe, wpE] at *
  refine iha κ env _ out σ S U X _ h i fun v env' d S' U' h1 s1 r1 => ?_
  obtain ⟨t, ht, h2⟩ := ob_some h1
  obtain ⟨j, rfl, rfl⟩ := int_of ht r1.bw
  exact ⟨j, rfl, K.rp h2 s1 (fun _ => rfl) (.int _)⟩
theorem ok_not (iha : IHe P C Wc a) : IHe P C Wc (.not a) := fun κ env k out σ S U X Q h i K => by
  simp only [pe, wpE] at *
  exact tst_ok iha h i fun c env' S' U' h1 s1 => K.rp h1 s1 (fun _ => rfl) (.bl _)
theorem ok_and (iha : IHe P C Wc a) (ihb : IHe P C Wc b) : IHe P C Wc (.and a b) := fun κ env k out σ S U X Q h i K => by
  simp only [pe, wpE] at *
  refine tst_ok iha h i fun c env' S' U' h1 s1 => ?_
  cases c with
  | true => rw [if_pos rfl]; exact ihb κ env' k out σ S' U' X Q h1 s1.inv (K.mono i (fun z => by unfold fresh at z; cases z) s1)
  | false => rw [if_neg Bool.false_ne_true]; exact K.rp h1 s1 (fun _ => rfl) (.bl _)
theorem ok_or (iha : IHe P C Wc a) (ihb : IHe P C Wc b) : IHe P C Wc (.or a b) := fun κ env k out σ S U X Q h i K => by
  simp only [pe, wpE] at *
  refine tst_ok iha h i fun c env' S' U' h1 s1 => ?_
  cases c with
  | false => rw [if_neg Bool.false_ne_true]; exact ihb κ env' k out σ S' U' X Q h1 s1.inv (K.mono i (fun z => by unfold fresh at z; cases z) s1)
  | true => rw [if_pos rfl]; exact K.rp h1 s1 (fun _ => rfl) (.bl _)
theorem ok_ite (ihc : IHe P C Wc c) (iha : IHe P C Wc a) (ihb : IHe P C Wc b) : IHe P C Wc (.ite c a b) := fun κ env k out σ S U X Q h i K => by
  simp only [pe, wpE] at *
  refine tst_ok ihc h i fun t env' S' U' h1 s1 => ?_
  have fa : fresh P.R κ (.ite c a b) = (fresh P.R κ a && fresh P.R κ b) := by rw [fresh]
  cases t with
  | true => rw [if_pos rfl]; exact iha κ env' k out σ S' U' X Q h1 s1.inv (K.mono i (fun z => by rw [fa, Bool.and_eq_true] at z; exact z.1) s1)
  | false => rw [if_neg Bool.false_ne_true]; exact ihb κ env' k out σ S' U' X Q h1 s1.inv (K.mono i (fun z => by rw [fa, Bool.and_eq_true] at z; exact z.2) s1)
theorem ok_tru (iha : IHe P C Wc a) : IHe P C Wc (.tru a) := fun κ env k out σ S U X Q h i K => by
  simp only [pe, wpE] at *
  refine pb_ok iha h i fun x κ1 env' dx S' U' h1 l1 s1 b1 _ => ?_
  obtain ⟨c, hc, h2⟩ := ob_some h1
  exact vTru_ok hc b1 (R := fun b => Q (.bl b) S') (K.rp h2 s1 (fun _ => rfl) (.bl _))
theorem ok_isi {t : Ty} (iha : IHe P C Wc a) : IHe P C Wc (.isi a t) := fun κ env k out σ S U X Q h i K => by
  simp only [pe, wpE] at *
  refine pb_ok iha h i fun x κ1 env' dx S' U' h1 l1 s1 b1 _ => ?_
  exact vIsi_ok b1 (R := fun b => Q (.bl b) S') (K.rp h1 s1 (fun _ => rfl) (.bl _))
theorem ok_cmp {o : CmpOp} (iha : IHe P C Wc a) (ihb : IHe P C Wc b) : IHe P C Wc (.cmp o a b) := fun κ env k out σ S U X Q h i K => by
  simp only [pe, wpE] at *
  refine pb2_ok iha ihb h i fun x y κ1 env' dx dy S' U' h1 l1 s1 b1 b2 _ _ => ?_
  obtain ⟨c, hc, h2⟩ := ob_some h1
  exact vCmp_ok hc b1 b2 (R := fun c => Q (.bl c) S') (K.rp h2 s1 (fun _ => rfl) (.bl _))
theorem ok_cmp2 {o p : CmpOp} (iha : IHe P C Wc a) (ihb : IHe P C Wc b) (ihc : IHe P C Wc c) : IHe P C Wc (.cmp2 o p a b c) := fun κ env k out σ S U X Q h i K => by
  simp only [pe, wpE] at *
  refine pb2_ok iha ihb h i fun x y κ1 env' dx dy S' U' h1 l1 s1 b1 b2 n1 n2 => ?_
  obtain ⟨t, hc, h2⟩ := ob_some h1
  refine vCmp_ok hc b1 b2 (R := fun t => if t = true then wpE Wc P.G c σ S' X fun z S3 => pCmp p dy z S3 fun k' => Q (.bl k') S3 else Q (.bl false) S') ?_
  cases t with
  | true =>
    rw [if_pos rfl]
    refine pb_ok (k := fun z _ env => ob (vCmp p y z) fun c2 => k (.bl c2) env) ihc h2 (l1.inv s1.inv) fun z κ2 env2 dz S2 U2 h3 l2 s2 b3 _ => ?_
    obtain ⟨t, hc, h4⟩ := ob_some h3
    exact vCmp_ok hc (b2.step (l1.inv s1.inv) s2 n2).1 b3 (R := fun c => Q (.bl c) S2) (K.rp h4 (s1.lent i l1 s2) (fun _ => rfl) (.bl _))
  | false => rw [if_neg Bool.false_ne_true]; exact K.rp h2 s1 (fun _ => rfl) (.bl _)
theorem ok_ix (iha : IHe P C Wc a) (ihb : IHe P C Wc b) : IHe P C Wc (.ix a b) := fun κ env k out σ S U X Q h i K => by
  simp only [pe, wpE] at *
  refine pb2_ok iha ihb h i fun x y κ1 env' dx dy S' U' h1 l1 s1 b1 b2 _ _ => ?_
  obtain ⟨z, hz, h2⟩ := ob_some h1
  exact vIx_ok hz b1 b2 fun d r => K.rp h2 s1 (fun z => by unfold fresh at z; cases z) r
/-! lists of expressions -/
theorem pes_ok : ∀ {es : List E}, (∀ e ∈ es, IHe P C Wc e) → IHs P C Wc es
  | [], _ => fun κ env k out σ S U X T h i K => by simp only [pes, wpEs] at *; exact K [] env [] S U h (.refl i) .nil
  | e :: es, ih => fun κ env k out σ S U X T h i K => by
    simp only [pes, wpEs] at *
    refine ih e (List.mem_cons_self ..) κ env _ out σ S U X _ h i fun v env1 d S1 U1 h1 s1 r1 => ?_
    obtain ⟨U2, s2, r2⟩ := r1.shareS i s1
    refine pes_ok (es := es) (fun e he => ih e (List.mem_cons_of_mem _ he)) κ env1 _ out σ S1 U2 X _ h1 s2.inv fun vs env2 ds S3 U3 h3 s3 r3 => ?_
    exact K _ env2 _ S3 U3 h3 (s2.trans i s3) (.cons (r2.step s2.inv s3) r3)
theorem pbs_ok : ∀ {es : List E}, (∀ e ∈ es, IHe P C Wc e) → IHb P C Wc es
  | [], _ => fun κ env k out σ S U X T h i K => by simp only [pbs, wpEs] at *; exact K [] κ env [] S U h .refl (.refl i) .nil fun _ z => nomatch z
  | e :: es, ih => fun κ env k out σ S U X T h i K => by
    simp only [pbs, wpEs] at *
    refine pb_ok (ih e (List.mem_cons_self ..)) h i fun v κ1 env1 d S1 U1 h1 l1 s1 b1 n1 => ?_
    refine pbs_ok (es := es) (fun e he => ih e (List.mem_cons_of_mem _ he)) κ1 env1 _ out σ S1 U1 X _ h1 (l1.inv s1.inv) fun vs κ2 env2 ds S3 U3 h3 l3 s3 r3 n3 => ?_
    obtain ⟨b1', n1'⟩ := b1.step (l1.inv s1.inv) s3 n1
    refine K _ κ2 env2 _ S3 U3 h3 (l1.trans l3) (s1.lent i l1 s3) (.cons b1' r3) fun x hx => ?_
    rcases List.mem_cons.mp hx with rfl | hx
    · exact fun a e z => n1' a e (l3.ad z)
    · exact n3 x hx
theorem ok_tup {es : List E} (ih : ∀ e ∈ es, IHe P C Wc e) : IHe P C Wc (.tup es) := fun κ env k out σ S U X Q h i K => by
  simp only [pe, wpE] at *
  exact pes_ok ih κ env _ out σ S U X _ h i fun vs env' ds S' U' h1 s1 r1 => K.rp h1 s1 (fun _ => rfl) (.tup r1)
theorem ok_lst {es : List E} (ih : ∀ e ∈ es, IHe P C Wc e) : IHe P C Wc (.lst es) := fun κ env k out σ S U X Q h i K => by
  simp only [pe, wpE] at *
  exact pes_ok ih κ env _ out σ S U X _ h i fun vs env' ds S' U' h1 s1 r1 => (K.kf i h1 s1).lst r1
theorem ok_dnew : IHe P C Wc .dnew := fun κ env k out σ S U X Q h i K => by
  simp only [pe, wpE] at *
  exact (K.kf i h (.refl i)).dic .nil
theorem ok_blt {f : Bt} {es : List E} (ih : ∀ e ∈ es, IHe P C Wc e) : IHe P C Wc (.blt f es) := fun κ env k out σ S U X Q h i K => by
  simp only [pe, wpE] at *
  refine pbs_ok ih κ env _ out σ S U X _ h i fun vs κ1 env' ds S' U' h1 l1 s1 b1 _ => ?_
  obtain ⟨z, hz, h2⟩ := ob_some h1
  exact vB_ok hz b1 (K.kf i h2 s1)
theorem ok_sl {lo hi : List E} (iha : IHe P C Wc a) (ihl : ∀ e ∈ lo, IHe P C Wc e) (ihh : ∀ e ∈ hi, IHe P C Wc e) : IHe P C Wc (.sl a lo hi) := fun κ env k out σ S U X Q h i K => by
  simp only [pe, wpE] at *
  refine pb_ok iha h i fun x κ1 env1 dx S1 U1 h1 l1 s1 b1 n1 => pes_ok ihl κ1 env1 _ out σ S1 U1 X _ h1 (l1.inv s1.inv) fun ls env2 dl S2 U2 h2 s2 r2 => ?_
  have i1 := l1.inv s1.inv
  obtain ⟨b2, n2⟩ := b1.step i1 s2 n1
  obtain ⟨ii, hp, h2⟩ := ob_some h2
  refine ⟨ii, part_rp r2 hp, pes_ok ihh κ1 env2 _ out σ S2 U2 X _ h2 s2.inv fun hs env3 dh S3 U3 h3 s3 r3 => ?_⟩
  obtain ⟨b3, n3⟩ := b2.step s2.inv s3 n2
  obtain ⟨jj, e2, h4⟩ := ob_some h3
  obtain ⟨z, hz, h5⟩ := ob_some h4
  exact ⟨jj, part_rp r3 e2, vSl_ok hz b3 (K.kf i h5 (s1.lent i l1 (s2.trans i1 s3)))⟩
/-! calls -/
/-- the arguments of a call -/
structure ARel (κ κe ks : List Kd) (σ : Sl) (env : Env) (S : Sto) (env' : Env) (U' : Addr → Prop) (S' : Sto) (vs : List Vl) (js : List (Option Nat)) (ds : List D) : Prop where
  lt : Lt κ κe
  len1 : vs.length = ds.length
  len2 : js.length = ds.length
  rel : ∀ i v d, vs[i]? = some v → ds[i]? = some d → SlotR (kat ks i) S' U' v d
  own : ∀ i : Nat, i < ds.length → kat ks i ≠ .own
  dis : ∀ i j a, kat ks i = .io → kat ks j = .io → i ≠ j → ds[i]? = some (.ref a) → ds[j]? ≠ some (.ref a)
  out : ∀ i a, kat ks i = .io → ds[i]? = some (.ref a) → (∀ (j : Nat) (w : Vl), env'[j]? = some (some w) → kat κ j ≠ .shr → σ[j]? ≠ some (some (.ref a))) ∧ (S a = none ∨ Ad κ env σ a)
  bsl : ∀ i a, kat ks i = .bor → ds[i]? = some (.ref a) → U' a → ∃ (j : Nat) (w : Vl), env'[j]? = some (some w) ∧ kat κe j = .bor ∧ σ[j]? = some (some (.ref a))
  slot : ∀ i j, js[i]? = some (some j) → (kat κ j).ow = true ∧ (∃ v : Vl, env[j]? = some (some v)) ∧ kat ks i = .io ∧ ∀ d, ds[i]? = some d → σ[j]? = some (some d)
variable (P C Wc) in
def IHa (es : List E) : Prop := ∀ (ks κ : List Kd) (env : Env) (k : List Vl → List (Option Nat) → List Kd → Env → Option Rt) (out : Rt) (σ : Sl) (S : Sto) (U : Addr → Prop) (X : XPost) (T : List D → Sto → Prop), pargs C P es ks κ env k = some out → Inv κ env σ S U →
  (∀ vs js κe env' ds S' U', k vs js κe env' = some out → Step κ σ env S U env' S' U' → ARel κ κe ks σ env S env' U' S' vs js ds → T ds S') → wpEs Wc P.G es σ S X T
theorem kat_drop (ks : List Kd) (i : Nat) : kat (ks.drop 1) i = kat ks (i + 1) := by
  unfold kat; rw [List.getElem?_drop]; simp [Nat.add_comm]
theorem Own.alive (dom : ∀ a, U a → S a ≠ none) {a : Addr} (h : Own S U v (.ref a)) : S a ≠ none := Bw.alive dom (.inr h)
/-- one argument more -/
theorem ARel.cons (i : Inv κ env σ S U) (s1 : Step κ σ env S U env1 S1 U1) (lt : Lt κ κ1) (s2 : Step κ1 σ env1 S1 U1 env' S' U') {ks : List Kd} {vs : List Vl} {js : List (Option Nat)} {ds : List D} {κe : List Kd} (ar : ARel κ1 κe (ks.drop 1) σ env1 S1 env' U' S' vs js ds)
    {j : Option Nat} (r : SlotR (kat ks 0) S1 U1 v d) (no : kat ks 0 ≠ .own) (prot : kat ks 0 ≠ .shr → ∀ a, d = .ref a → ¬ Ad κ1 env1 σ a)
    (ho : kat ks 0 = .io → ∀ a, d = .ref a → (∀ (j : Nat) (w : Vl), env1[j]? = some (some w) → kat κ j ≠ .shr → σ[j]? ≠ some (some (.ref a))) ∧ (S a = none ∨ Ad κ env σ a))
    (hb : kat ks 0 = .bor → ∀ a, d = .ref a → U1 a → ∃ (j : Nat) (w : Vl), env1[j]? = some (some w) ∧ kat κ1 j = .bor ∧ σ[j]? = some (some (.ref a)))
    (hj : ∀ q, j = some q → (kat κ q).ow = true ∧ (∃ v : Vl, env[q]? = some (some v)) ∧ kat ks 0 = .io ∧ σ[q]? = some (some d)) : ARel κ κe ks σ env S env' U' S' (v :: vs) (j :: js) (d :: ds) := by
  have i1 := lt.inv s1.inv
  have iP : ∀ b, Ad κ1 env1 σ b → U1 b := fun b h => i1.ad h
  have r' : SlotR (kat ks 0) S' U' v d := r.fm s2.fm iP prot
  have ltk : ∀ {q : Nat}, kat κ1 q ≠ .shr → kat κ q ≠ .shr := fun {q} h z => by
    rcases lt q with e | ⟨e, _⟩
    · exact h (e.trans z)
    · rw [z] at e; cases e
  have ltk2 : ∀ {q : Nat}, kat κ q ≠ .shr → kat κ1 q ≠ .shr := fun {q} h z => by
    rcases lt q with e | ⟨_, e⟩
    · exact h (e.symm.trans z)
    · rw [z] at e; cases e
  refine ⟨lt.trans ar.lt, congrArg (· + 1) ar.len1, congrArg (· + 1) ar.len2, fun p v' d' h1 h2 => ?_, fun p hp => ?_, fun p q a h1 h2 h3 h4 h5 => ?_, fun p a h1 h2 => ?_, fun p a h1 h2 h3 => ?_, fun p q h => ?_⟩
  · cases p with
    | zero => cases h1; cases h2; exact r'
    | succ p => have := ar.rel p v' d' (by simpa using h1) (by simpa using h2); rwa [kat_drop] at this
  · cases p with
    | zero => exact no
    | succ p => have := ar.own p (by simpa using hp); rwa [kat_drop] at this
  · -- two that are changed stand apart
    have apart : ∀ {m : Nat}, kat ks 0 = .io → kat ks (m + 1) = .io → d = .ref a → ds[m]? ≠ some (.ref a) := fun {m} g1 g2 g3 g4 => by
      obtain ⟨o1, o2⟩ := ar.out m a (by rw [kat_drop]; exact g2) g4
      subst g3
      rw [g1] at r
      have al := Own.alive i1.dom (Owx.ref r).1
      rcases o2 with z | ⟨jj, w, y1, y2, y3⟩
      · exact al z
      · exact (ho g1 a rfl).1 jj w y2 (ltk (ow_ne y1).1) y3
    cases p with
    | zero =>
      cases q with
      | zero => exact absurd rfl h3
      | succ q => simp only [List.getElem?_cons_zero, Option.some.injEq] at h4; exact apart h1 h2 h4 (by simpa using h5)
    | succ p =>
      cases q with
      | zero => simp only [List.getElem?_cons_zero, Option.some.injEq] at h5; exact apart h2 h1 h5 (by simpa using h4)
      | succ q => exact ar.dis p q a (by rw [kat_drop]; exact h1) (by rw [kat_drop]; exact h2) (fun c => h3 (by rw [c])) (by simpa using h4) (by simpa using h5)
  · cases p with
    | zero =>
      simp only [List.getElem?_cons_zero, Option.some.injEq] at h2
      obtain ⟨o1, o2⟩ := ho h1 a h2
      refine ⟨fun jj w g1 g2 g3 => ?_, o2⟩
      obtain ⟨w', z⟩ := s2.mo.less jj w g1
      exact o1 jj w' z g2 g3
    | succ p =>
      obtain ⟨o1, o2⟩ := ar.out p a (by rw [kat_drop]; exact h1) (by simpa using h2)
      refine ⟨fun jj w g1 g2 g3 => o1 jj w g1 (ltk2 g2) g3, ?_⟩
      rcases o2 with z | z
      · exact .inl (Classical.byContradiction fun c => s1.fm.alive a c z)
      · exact .inr (s1.mo.ad (lt.ad z))
  · cases p with
    | zero =>
      simp only [List.getElem?_cons_zero, Option.some.injEq] at h2
      have ua : U1 a := by
        rcases s2.fm.back a h3 with z | z
        · exact z
        · exfalso
          subst h2
          rw [h1] at r
          exact Bw.alive i1.dom r z
      obtain ⟨jj, w, g1, g2, g3⟩ := hb h1 a h2 ua
      refine ⟨jj, w, ?_, (ar.lt jj).elim (fun e => e.trans g2) fun z => (by have := z.1; rw [g2] at this; cases this), g3⟩
      rw [s2.mo.same jj (by rw [g2]; rfl)]; exact g1
    | succ p =>
      obtain ⟨jj, w, g1, g2, g3⟩ := ar.bsl p a (by rw [kat_drop]; exact h1) (by simpa using h2) h3
      exact ⟨jj, w, g1, g2, g3⟩
  · cases p with
    | zero =>
      simp only [List.getElem?_cons_zero, Option.some.injEq] at h
      obtain ⟨g1, g2, g3, g4⟩ := hj q h
      exact ⟨g1, g2, g3, fun d' hd => by cases hd; exact g4⟩
    | succ p =>
      obtain ⟨g1, ⟨w, g2⟩, g3, g4⟩ := ar.slot p q (by simpa using h)
      rw [kat_drop] at g3
      exact ⟨by rw [lt.ow g1]; exact g1, s1.mo.less q w g2, g3, fun d' hd => g4 d' (by simpa using hd)⟩
/-- one that is changed: it is taken when all have been read -/
theorem ARel.late (i : Inv κ env σ S U) (s : Step κ σ env S U env' S' U') {ks κe : List Kd} {vs : List Vl} {js : List (Option Nat)} {ds : List D} (ar : ARel κ κe (ks.drop 1) σ env S env' U' S' vs js ds) (hk : kat ks 0 = .io) {q : Nat} (ho : (kat κ q).ow = true)
    (hoe : (kat κe q).ow = true) {v0 : Vl} (hv0 : env[q]? = some (some v0)) (hv : env'[q]? = some (some v)) (hd : σ[q]? = some (some d)) : ARel κ κe ks σ env S (env'.set q none) U' S' (v :: vs) (some q :: js) (d :: ds) := by
  have sub : ∀ {p : Nat} {w : Vl}, (env'.set q none)[p]? = some (some w) → env'[p]? = some (some w) ∧ q ≠ p := fun {p w} h => by
    by_cases e : q = p
    · subst e
      rw [List.getElem?_set_self ((List.getElem?_eq_some_iff.mp hv).1)] at h; cases h
    · rw [List.getElem?_set_ne e] at h; exact ⟨h, e⟩
  have apart : ∀ {m : Nat} {a : Addr}, kat ks (m + 1) = .io → d = .ref a → ds[m]? ≠ some (.ref a) := fun {m a} g2 g3 g4 => by
    subst g3
    exact (ar.out m a (by rw [kat_drop]; exact g2) g4).1 q v hv (ow_ne ho).1 hd
  refine ⟨ar.lt, congrArg (· + 1) ar.len1, congrArg (· + 1) ar.len2, fun p v' d' h1 h2 => ?_, fun p hp => ?_, fun p r a h1 h2 h3 h4 h5 => ?_, fun p a h1 h2 => ?_, fun p a h1 h2 h3 => ?_, fun p r h => ?_⟩
  · cases p with
    | zero =>
      cases h1; cases h2
      obtain ⟨d', e, r⟩ := s.inv.rel q v hv
      rw [hd] at e; cases e
      rw [own_of ho] at r
      rw [hk]; exact r
    | succ p => have := ar.rel p v' d' (by simpa using h1) (by simpa using h2); rwa [kat_drop] at this
  · cases p with
    | zero => rw [hk]; decide
    | succ p => have := ar.own p (by simpa using hp); rwa [kat_drop] at this
  · cases p with
    | zero =>
      cases r with
      | zero => exact absurd rfl h3
      | succ r => simp only [List.getElem?_cons_zero, Option.some.injEq] at h4; exact apart h2 h4 (by simpa using h5)
    | succ p =>
      cases r with
      | zero => simp only [List.getElem?_cons_zero, Option.some.injEq] at h5; exact apart h1 h5 (by simpa using h4)
      | succ r => exact ar.dis p r a (by rw [kat_drop]; exact h1) (by rw [kat_drop]; exact h2) (fun c => h3 (by rw [c])) (by simpa using h4) (by simpa using h5)
  · cases p with
    | zero =>
      simp only [List.getElem?_cons_zero, Option.some.injEq] at h2
      subst h2
      exact ⟨fun jj w g1 g2 g3 => s.inv.dis q jj v w ho g2 (sub g1).2 hv (sub g1).1 a hd g3, .inr ⟨q, v0, ho, hv0, hd⟩⟩
    | succ p =>
      obtain ⟨o1, o2⟩ := ar.out p a (by rw [kat_drop]; exact h1) (by simpa using h2)
      exact ⟨fun jj w g1 g2 g3 => o1 jj w (sub g1).1 g2 g3, o2⟩
  · cases p with
    | zero => rw [hk] at h1; cases h1
    | succ p =>
      obtain ⟨jj, w, g1, g2, g3⟩ := ar.bsl p a (by rw [kat_drop]; exact h1) (by simpa using h2) h3
      have ne : q ≠ jj := fun c => by subst c; rw [g2] at hoe; cases hoe
      exact ⟨jj, w, by rw [List.getElem?_set_ne ne]; exact g1, g2, g3⟩
  · cases p with
    | zero =>
      simp only [List.getElem?_cons_zero, Option.some.injEq] at h
      subst h
      exact ⟨ho, ⟨v0, hv0⟩, hk, fun d' hd' => by cases hd'; exact hd⟩
    | succ p =>
      obtain ⟨g1, g2, g3, g4⟩ := ar.slot p r (by simpa using h)
      rw [kat_drop] at g3
      exact ⟨g1, g2, g3, fun d' hd => g4 d' (by simpa using hd)⟩
theorem chg_some {α : Type} {e : E} {k : Nat → Vl → Option α} {r : α} (h : chg e κ env k = some r) : ∃ j x, e = .v j ∧ env[j]? = some (some x) ∧ (kat κ j).ow = true ∧ k j x = some r := by
  unfold chg at h
  split at h
  · rename_i j hj
    obtain ⟨x, hx, h⟩ := get2 h
    obtain ⟨ho, h⟩ := cnd_some h
    exact ⟨j, x, slotE_some hj, hx, ho, h⟩
  · cases h
theorem pargs_ok : ∀ {es : List E}, (∀ e ∈ es, IHe P C Wc e) → IHa P C Wc es
  | [], _ => fun ks κ env k out σ S U X T h i K => by
    simp only [pargs, wpEs] at *
    refine K [] [] κ env [] S U h (.refl i) ⟨.refl, rfl, rfl, ?_, ?_, ?_, ?_, ?_, ?_⟩ <;> intros <;> simp_all
  | e :: es, ih => fun ks κ env k out σ S U X T h i K => by
    have ihr := pargs_ok (es := es) fun e he => ih e (List.mem_cons_of_mem _ he)
    have ihe := ih e (List.mem_cons_self ..)
    simp only [pargs, wpEs] at *
    cases hk : kat ks 0 with
    | own => rw [hk] at h; cases h
    | shr =>
      rw [hk] at h
      refine ihe κ env _ out σ S U X _ h i fun v env1 d S1 U1 h1 s1 r1 => ?_
      obtain ⟨U2, s2, r2⟩ := r1.shareS i s1
      refine ihr (ks.drop 1) κ env1 _ out σ S1 U2 X _ h1 s2.inv fun vs js κe env' ds S' U' h3 s3 ar => ?_
      exact K _ _ κe env' _ S' U' h3 (s2.trans i s3) (ar.cons i s2 .refl s3 (by rw [hk]; exact r2) (by rw [hk]; decide) (fun z => absurd hk z) (fun z => by rw [hk] at z; cases z) (fun z => by rw [hk] at z; cases z) (fun q z => by cases z))
    | bor =>
      rw [hk] at h
      have h : (pb e (pe C P e) κ env fun v κ1 env => pargs C P es (ks.drop 1) κ1 env fun vs js κe env => k (v :: vs) (none :: js) κe env) = some out := h
      -- a slot, or what is shared
      have nxt : ∀ v κ1 env1 d S1 U1, (pargs C P es (ks.drop 1) κ1 env1 fun vs js κe env => k (v :: vs) (none :: js) κe env) = some out → Lt κ κ1 → Step κ σ env S U env1 S1 U1 → Bw S1 U1 v d → (∀ a, d = .ref a → ¬ Ad κ1 env1 σ a) →
          (∀ a, d = .ref a → U1 a → ∃ (j : Nat) (w : Vl), env1[j]? = some (some w) ∧ kat κ1 j = .bor ∧ σ[j]? = some (some (.ref a))) → wpEs Wc P.G es σ S1 X fun ds S2 => T (d :: ds) S2 := fun v κ1 env1 d S1 U1 h1 l1 s1 b1 n1 c1 => by
        refine ihr (ks.drop 1) κ1 env1 _ out σ S1 U1 X _ h1 (l1.inv s1.inv) fun vs js κe env' ds S' U' h3 s3 ar => ?_
        exact K _ _ κe env' _ S' U' h3 (s1.lent i l1 s3) (ar.cons i s1 l1 s3 (by rw [hk]; exact b1) (by rw [hk]; decide) (fun _ => n1) (fun z => by rw [hk] at z; cases z) (fun _ => c1) (fun q z => by cases z))
      unfold pb at h
      split at h
      · rename_i j hj
        have e1 := slotE_some hj
        subst e1
        obtain ⟨v, hv, h⟩ := get2 h
        obtain ⟨d, hd, r⟩ := i.rel j v hv
        simp only [wpE]
        refine ⟨d, hd, ?_⟩
        cases ho : (kat κ j).ow with
        | true =>
          rw [ho] at h
          refine nxt v (κ.set j .bor) env d S U h (Lt.bor ho) (.refl i) r.bw (fun a e ⟨j', w, g1, g2, g3⟩ => ?_) fun a e u => ⟨j, v, hv, by rw [kat_set ho, if_pos rfl], by rw [hd, e]⟩
          subst e
          have ne : j' ≠ j := fun c => by subst c; rw [kat_set ho, if_pos rfl] at g1; cases g1
          rw [kat_set ho, if_neg ne] at g1
          exact i.dis j' j w v g1 (ow_ne ho).1 ne g2 hv a g3 hd
        | false =>
          rw [ho] at h
          refine nxt v κ env d S U h .refl (.refl i) r.bw (fun a e ⟨j', w, g1, g2, g3⟩ => ?_) fun a e u => ?_
          · subst e
            have ne : j' ≠ j := fun c => by subst c; rw [ho] at g1; cases g1
            cases hk2 : kat κ j with
            | shr =>
              rw [hk2] at r
              exact Rp.noad i r a rfl ⟨j', w, g1, g2, g3⟩
            | bor => exact i.dis j' j w v g1 (by rw [hk2]; decide) ne g2 hv a g3 hd
            | own => rw [hk2] at ho; cases ho
            | io => rw [hk2] at ho; cases ho
          · cases hk2 : kat κ j with
            | shr =>
              rw [hk2] at r
              exfalso
              subst e
              cases (show Rp S U v (.ref a) from r) with
              | lst n _ _ => exact n u
              | dic n _ _ => exact n u
            | bor => exact ⟨j, v, hv, hk2, by rw [hd, e]⟩
            | own => rw [hk2] at ho; cases ho
            | io => rw [hk2] at ho; cases ho
      · refine ihe κ env _ out σ S U X _ h i fun v env1 d S1 U1 h1 s1 r1 => ?_
        obtain ⟨U2, s2, r2⟩ := r1.shareS i s1
        refine nxt v κ env1 d S1 U2 h1 .refl s2 (.inl r2) (r2.noad s2.inv) fun a e u => ?_
        exfalso
        subst e
        cases r2 with
        | lst n _ _ => exact n u
        | dic n _ _ => exact n u
    | io =>
      rw [hk] at h
      have h : (match slotE e with
        | some i => chg e κ env fun _ _ => pargs C P es (ks.drop 1) κ env fun vs js κe env => cnd (kat κe i).ow (ob (env[i]?).join fun v => k (v :: vs) (some i :: js) κe (env.set i none)) none
        | none => cnd (fresh P.R κ e) (pe C P e κ env fun v env => cnd v.mut (pargs C P es (ks.drop 1) κ env fun vs js κe env => k (v :: vs) (none :: js) κe env) none) none) = some out := h
      split at h
      · rename_i j hj
        obtain ⟨j2, v, e1, hv, ho, _⟩ := chg_some h
        subst e1
        cases hj
        obtain ⟨d, hd, r⟩ := i.rel j v hv
        rw [own_of ho] at r
        simp only [wpE]
        refine ⟨d, hd, ?_⟩
        have h : (pargs C P es (ks.drop 1) κ env fun vs js κe env => cnd (kat κe j).ow (ob (env[j]?).join fun v => k (v :: vs) (some j :: js) κe (env.set j none)) none) = some out := by
          unfold chg at h
          simp only [slotE, hv, ho] at h
          exact h
        refine ihr (ks.drop 1) κ env _ out σ S U X _ h i fun vs js κe env' ds S' U' h3 s3 ar => ?_
        obtain ⟨hoe, h3⟩ := cnd_some h3
        obtain ⟨v', hv', h3⟩ := ob_some h3
        have hv2 : env'[j]? = some (some v') := by
          cases e : env'[j]? with
          | none => rw [e] at hv'; cases hv'
          | some o => rw [e] at hv'; exact congrArg some hv'
        exact K _ _ κe _ _ S' U' h3 (s3.trans i (Step.move (σ := σ) s3.inv ho)) (ar.late i s3 hk ho hoe hv hv2 hd)
      · obtain ⟨hf, h⟩ := cnd_some h
        refine ihe κ env _ out σ S U X _ h i fun v env1 d S1 U1 h1 s1 r1 => ?_
        obtain ⟨hm, h1⟩ := cnd_some h1
        rcases r1 with ⟨_, m⟩ | ⟨a, e, u, o, nw, no, nio, nl⟩
        · rw [m hf] at hm; cases hm
        · refine ihr (ks.drop 1) κ env1 _ out σ S1 U1 X _ h1 s1.inv fun vs js κe env' ds S' U' h3 s3 ar => ?_
          refine K _ _ κe env' _ S' U' h3 (s1.trans i s3) (ar.cons i s1 .refl s3 (by rw [hk]; exact .inl ⟨⟨a, e, u, o⟩, fun b kd eb => by rw [e] at eb; cases eb; exact nl kd⟩) (by rw [hk]; decide) (fun _ b eb ⟨j', w, g1, g2, g3⟩ => ?_) (fun _ b eb => ?_) (fun z => by rw [hk] at z; cases z) (fun q z => by cases z))
          · rw [e] at eb; cases eb; exact no j' w g2 (ow_ne g1).1 g3
          · rw [e] at eb; cases eb; exact ⟨no, nw⟩
/-- what was changed comes back -/
theorem backs_some : ∀ {js : List (Option Nat)} {outs : List (Option Vl)} {env : Env} {k : Env → Option Rt} {r : Rt}, backs js outs env k = some r → ∃ env', k env' = some r ∧ env'.length = env.length ∧
    ∀ j, env'[j]? = env[j]? ∨ ∃ (i : Nat) (w : Vl), js[i]? = some (some j) ∧ outs[i]? = some (some w) ∧ env'[j]? = some (some w)
  | [], _, env, k, r, h => ⟨env, by unfold backs at h; exact h, rfl, fun _ => .inl rfl⟩
  | none :: js, [], env, k, r, h => by unfold backs at h; cases h
  | none :: js, _ :: vs, env, k, r, h => by
    unfold backs at h
    obtain ⟨env', h1, h2, h3⟩ := backs_some h
    refine ⟨env', h1, h2, fun j => (h3 j).imp id fun ⟨i, w, a, b, c⟩ => ⟨i + 1, w, by simpa using a, by simpa using b, c⟩⟩
  | some j :: js, [], env, k, r, h => by unfold backs at h; cases h
  | some j :: js, none :: vs, env, k, r, h => by unfold backs at h; cases h
  | some j :: js, some v :: vs, env, k, r, h => by
    unfold backs at h
    obtain ⟨env', h1, h2, h3⟩ := backs_some h
    refine ⟨env', h1, by rw [h2, List.length_set], fun q => ?_⟩
    rcases h3 q with e | ⟨i, w, a, b, c⟩
    · by_cases ej : j = q
      · subst ej
        by_cases hl : j < env.length
        · exact .inr ⟨0, v, rfl, rfl, by rw [e, List.getElem?_set_self hl]⟩
        · exact .inl (by rw [e, List.getElem?_eq_none (by simp; omega), List.getElem?_eq_none (by omega)])
      · exact .inl (by rw [e, List.getElem?_set_ne ej])
    · exact .inr ⟨i + 1, w, by simpa using a, by simpa using b, c⟩
theorem ok_call {f : Str} {es : List E} (ck : CalOk P C Wc) (ih : ∀ e ∈ es, IHe P C Wc e) : IHe P C Wc (.call f es) := fun κ env k out σ S U X Q h i K => by
  simp only [pe, wpE] at *
  refine pargs_ok ih (P.K f) κ env _ out σ S U X _ h i fun vs js κe env1 ds S1 U1 h1 s1 ar => ?_
  obtain ⟨⟨r, outs⟩, hc, h2⟩ := ob_some h1
  have kio : ∀ {p : Nat}, p < ds.length → (kat (P.K f) p).ow = true → kat (P.K f) p = .io := fun {p} hp ho => by
    cases hk : kat (P.K f) p with
    | io => rfl
    | own => exact absurd hk (ar.own p hp)
    | shr => rw [hk] at ho; cases ho
    | bor => rw [hk] at ho; cases ho
  have vget : ∀ {p : Nat} {dd : D}, ds[p]? = some dd → ∃ v, vs[p]? = some v := fun {p dd} hd => by
    obtain ⟨hl, _⟩ := List.getElem?_eq_some_iff.mp hd
    exact ⟨vs[p]'(by rw [ar.len1]; exact hl), List.getElem?_eq_getElem _⟩
  have ioU : ∀ {p : Nat} {a : Addr}, kat (P.K f) p = .io → ds[p]? = some (.ref a) → U1 a := fun {p a} hk hd => by
    obtain ⟨v, hv⟩ := vget hd
    have := ar.rel p v _ hv hd
    rw [hk] at this
    obtain ⟨b, e, u, _⟩ := (Owx.ref this).1
    cases e; exact u
  refine ck.run f vs r outs hc ds S1 U1 X _ s1.inv.dom ar.len1 ar.rel (fun p q a h3 h4 h5 h6 h7 => ?_) fun d S2 U2 dom2 f2 ho rr => ?_
  · have hp := (List.getElem?_eq_some_iff.mp h6).1
    have hq := (List.getElem?_eq_some_iff.mp h7).1
    have kp := kio hp h3
    cases hk : kat (P.K f) q with
    | shr => exact h4 hk
    | io => exact ar.dis p q a kp hk h5 h6 h7
    | own => exact ar.own q hq hk
    | bor =>
      obtain ⟨jj, w, g1, g2, g3⟩ := ar.bsl q a hk h7 (ioU kp h6)
      exact (ar.out p a kp h6).1 jj w g1 (fun z => by
        rcases ar.lt jj with e | ⟨e, _⟩
        · rw [g2, z] at e; cases e
        · rw [z] at e; cases e) g3
  · have pio : ∀ {a : Addr}, (∃ p, (kat (P.K f) p).ow = true ∧ ds[p]? = some (.ref a)) → ∃ p, kat (P.K f) p = .io ∧ ds[p]? = some (.ref a) := fun ⟨p, g1, g2⟩ => ⟨p, kio (List.getElem?_eq_some_iff.mp g2).1 g1, g2⟩
    have hP : ∀ b, (∃ p, (kat (P.K f) p).ow = true ∧ ds[p]? = some (.ref b)) → U1 b := fun b h => by
      obtain ⟨p, g1, g2⟩ := pio h
      exact ioU g1 g2
    have fS : Fm (Ad κ env σ) S U S2 U2 := Fm.trans i.dom (fun b h => by
      obtain ⟨p, g1, g2⟩ := pio h
      exact (ar.out p b g1 g2).2.symm) s1.fm f2
    obtain ⟨env2, h3, hlen, hslot⟩ := backs_some h2
    have keep : ∀ (j : Nat) (w : Vl), env1[j]? = some (some w) → ∃ dd, σ[j]? = some (some dd) ∧ SlotR (kat κ j) S2 U2 w dd := fun j w hw => by
      obtain ⟨dd, g1, g2⟩ := s1.inv.rel j w hw
      refine ⟨dd, g1, SlotR.fm f2 hP (fun hk a e z => ?_) g2⟩
      obtain ⟨p, y1, y2⟩ := pio z
      subst e
      exact (ar.out p a y1 y2).1 j w hw hk g1
    have less : ∀ (j : Nat) (w : Vl), env2[j]? = some (some w) → ∃ v : Vl, env[j]? = some (some v) := fun j w hw => by
      rcases hslot j with e | ⟨p, w', g1, g2, g3⟩
      · rw [e] at hw; exact s1.mo.less j w hw
      · exact (ar.slot p j g1).2.1
    have s2 : Step κ σ env S U env2 S2 U2 := by
      refine ⟨⟨by rw [hlen]; exact s1.inv.len, dom2, fun j w hw => ?_, fun p q v w g1 g2 g3 g4 g5 => ?_, fun p q v b g1 g2 g3 g4 g5 => (let ⟨v', y⟩ := less p v g4; i.dio p q v' b g1 g2 g3 y g5), fun p b g1 g2 => fS.alive b (i.alv p b g1 g2)⟩, fS, ⟨by rw [hlen]; exact s1.mo.len, fun j hk => ?_, less⟩⟩
      · rcases hslot j with e | ⟨p, w', g1, g2, g3⟩
        · rw [e] at hw; exact keep j w hw
        · rw [g3] at hw; cases hw
          obtain ⟨y1, y2, y3, y4⟩ := ar.slot p j g1
          have hp : p < ds.length := by rw [← ar.len2]; exact (List.getElem?_eq_some_iff.mp g1).1
          have hd := List.getElem?_eq_getElem hp
          refine ⟨ds[p], y4 _ hd, ?_⟩
          rw [own_of y1]
          exact ho p _ _ (by rw [y3]; rfl) g2 hd
      · obtain ⟨v', y1⟩ := less p v g4
        obtain ⟨w', y2⟩ := less q w g5
        exact i.dis p q v' w' g1 g2 g3 y1 y2
      · rcases hslot j with e | ⟨p, w', g1, g2, g3⟩
        · rw [e]; exact s1.mo.same j hk
        · rw [(ar.slot p j g1).1] at hk; cases hk
    refine K r env2 d S2 U2 h3 s2 ?_
    rcases rr with ⟨r1, m⟩ | ⟨a, e, u, o, nw, nl⟩
    · exact .inl ⟨r1, fun z => m (by unfold fresh at z; exact z)⟩
    · refine .inr ⟨a, e, u, o, .inl (Classical.byContradiction fun c => s1.fm.alive a c nw), fun j w hw hk hs => ?_, fun j hk hs => s1.fm.alive a (i.alv j a hk hs) nw, nl⟩
      obtain ⟨v', y⟩ := less j w hw
      exact s1.fm.alive a (i.alive y hs) nw
end
end Mp

namespace Mp
open PySem

/-! ## a dict is locked while it is walked -/
structure Sim (S S' : Sto) : Prop where
  lst : ∀ b ds, S b = some (.lst ds) → S' b = some (.lst ds)
  dic : ∀ b kd, (S b = some (.dic kd) ∨ S b = some (.lck kd)) → (S' b = some (.dic kd) ∨ S' b = some (.lck kd))
  dom : ∀ b, S b ≠ none → S' b ≠ none
section
variable {S S' S1 S2 S3 : Sto} {U U' U1 U2 : Addr → Prop} {κ κ1 κ2 : List Kd} {env env' env1 env2 env3 : Env} {σ σ' σ2 : Sl} {v w z : Vl} {d : D} {out : Rt} {Q : Post} {X : XPost} {a b c e : E}
theorem sim_lock {a : Addr} {kd : List (L2.Key × D)} (h : S a = some (.dic kd)) : Sim S (S.put a (.lck kd)) := by
  refine ⟨fun b ds e => ?_, fun b k2 e => ?_, fun b e => ?_⟩
  · rw [put_ne fun c => by subst c; rw [h] at e; cases e]; exact e
  · by_cases c : b = a
    · subst c; rw [put_same]; rw [h] at e; rcases e with e | e <;> cases e; exact .inr rfl
    · rw [put_ne c]; exact e
  · by_cases c : b = a
    · subst c; rw [put_same]; simp
    · rw [put_ne c]; exact e
theorem sim_unlock {a : Addr} {kd : List (L2.Key × D)} (h : S a = some (.lck kd)) : Sim S (S.put a (.dic kd)) := by
  refine ⟨fun b ds e => ?_, fun b k2 e => ?_, fun b e => ?_⟩
  · rw [put_ne fun c => by subst c; rw [h] at e; cases e]; exact e
  · by_cases c : b = a
    · subst c; rw [put_same]; rw [h] at e; rcases e with e | e <;> cases e; exact .inl rfl
    · rw [put_ne c]; exact e
  · by_cases c : b = a
    · subst c; rw [put_same]; simp
    · rw [put_ne c]; exact e
mutual
theorem Rp.sim (s : Sim S S') : ∀ {v : Vl} {d : D}, Rp S U v d → Rp S' U v d
  | _, _, .non => .non
  | _, _, .bl b => .bl b
  | _, _, .int i => .int i
  | _, _, .str x => .str x
  | _, _, .tup r => .tup (Rps.sim s r)
  | _, _, .scr ns => .scr ns
  | _, _, .lst n e r => .lst n (s.lst _ _ e) (Rps.sim s r)
  | _, _, .dic n e r => .dic n (s.dic _ _ e) (Rpk.sim s r)
theorem Rps.sim (s : Sim S S') : ∀ {v : List Vl} {d : List D}, Rps S U v d → Rps S' U v d
  | _, _, .nil => .nil
  | _, _, .cons a b => .cons (Rp.sim s a) (Rps.sim s b)
theorem Rpk.sim (s : Sim S S') : ∀ {v : List (L2.Key × Vl)} {d : List (L2.Key × D)}, Rpk S U v d → Rpk S' U v d
  | _, _, .nil => .nil
  | _, _, .cons a b => .cons (Rp.sim s a) (Rpk.sim s b)
end
theorem Ow.sim (s : Sim S S') {a : Addr} (o : Ow S U v a) : Ow S' U v a := by
  cases o with
  | lst e r => exact .lst (s.lst _ _ e) (r.sim s)
  | dic e r => exact .dic (s.dic _ _ e) (r.sim s)
theorem Own.sim (s : Sim S S') (o : Own S U v d) : Own S' U v d := let ⟨a, e, u, o⟩ := o; ⟨a, e, u, o.sim s⟩
theorem Bw.sim (s : Sim S S') (o : Bw S U v d) : Bw S' U v d := o.imp (·.sim s) (·.sim s)
theorem Bws.sim (s : Sim S S') : ∀ {v : List Vl} {d : List D}, Bws S U v d → Bws S' U v d
  | _, _, .nil => .nil
  | _, _, .cons a b => .cons (a.sim s) (Bws.sim s b)
theorem Inv.sim (s : Sim S S') (i : Inv κ env σ S U) (nl : ∀ a, Ad κ env σ a → ∀ kd, S' a ≠ some (.lck kd)) : Inv κ env σ S' U := by
  refine ⟨i.len, fun a h => s.dom a (i.dom a h), fun j v h => ?_, i.dis, i.dio, fun j a hk h => s.dom a (i.alv j a hk h)⟩
  obtain ⟨d, h1, h2⟩ := i.rel j v h
  refine ⟨d, h1, ?_⟩
  cases hk : kat κ j with
  | shr => rw [hk] at h2; exact Rp.sim s h2
  | bor => rw [hk] at h2; exact Bw.sim s h2
  | own => rw [hk] at h2; exact Or.imp (fun h2 => ⟨h2.1.sim s, fun a kd e => nl a ⟨j, v, by rw [hk]; rfl, h, by rw [h1, e]⟩ kd⟩) (fun h2 => ⟨h2.1, Rp.sim s h2.2⟩) h2
  | io => rw [hk] at h2; exact Or.imp (fun h2 => ⟨h2.1.sim s, fun a kd e => nl a ⟨j, v, by rw [hk]; rfl, h, by rw [h1, e]⟩ kd⟩) (fun h2 => ⟨h2.1, Rp.sim s h2.2⟩) h2
/-- what is one's own is not locked -/
theorem Inv.nolck (i : Inv κ env σ S U) {a : Addr} (h : Ad κ env σ a) (kd : List (L2.Key × D)) : S a ≠ some (.lck kd) := by
  obtain ⟨j, v, h1, h2, h3⟩ := h
  obtain ⟨d, h4, h5⟩ := i.rel j v h2
  rw [own_of h1] at h5
  rw [h3] at h4
  have h4 := Option.some.inj (Option.some.inj h4)
  subst h4
  exact (Owx.ref h5).2 kd
theorem Inv.lock {a : Addr} {kd : List (L2.Key × D)} (i : Inv κ env σ S U) (h : S a = some (.dic kd)) (n : ¬ Ad κ env σ a) : Inv κ env σ (S.put a (.lck kd)) U :=
  i.sim (sim_lock h) fun b hb k2 => by
    have ne : b ≠ a := fun c => by subst c; exact n hb
    rw [put_ne ne]; exact i.nolck hb k2
theorem Inv.unlock {a : Addr} {kd : List (L2.Key × D)} (i : Inv κ env σ S U) (h : S a = some (.lck kd)) : Inv κ env σ (S.put a (.dic kd)) U :=
  i.sim (sim_unlock h) fun b hb k2 => by
    by_cases c : b = a
    · subst c; rw [put_same]; simp
    · rw [put_ne c]; exact i.nolck hb k2
theorem put_comm {a b : Addr} {o u : Ob} (h : a ≠ b) : (S.put a o).put b u = (S.put b u).put a o := by
  funext x
  by_cases e1 : x = a
  · subst e1; rw [put_ne h, put_same, put_same]
  · by_cases e2 : x = b
    · subst e2; rw [put_same, put_ne e1, put_same]
    · rw [put_ne e2, put_ne e1, put_ne e1, put_ne e2]
/-- locked, run, unlocked -/
theorem Step.unlock {a : Addr} {kd : List (L2.Key × D)} (h : S a = some (.dic kd)) (n : ¬ Ad κ env σ a) (s : Step κ σ env (S.put a (.lck kd)) U env' S' U') : S' a = some (.lck kd) ∧ Step κ σ env S U env' (S'.put a (.dic kd)) U' := by
  have e : S' a = some (.lck kd) := by
    rw [s.fm.keep a (by rw [put_same]; simp) n, put_same]
  refine ⟨e, s.inv.unlock e, ⟨fun b hb hn => ?_, fun b hb => ?_, fun b hb => ?_, s.fm.fwd⟩, s.mo⟩
  · by_cases c : b = a
    · subst c; rw [put_same, h]
    · rw [put_ne c, s.fm.keep b (by rw [put_ne c]; exact hb) hn, put_ne c]
  · by_cases c : b = a
    · subst c; rw [put_same]; simp
    · rw [put_ne c]; exact s.fm.alive b (by rw [put_ne c]; exact hb)
  · refine (s.fm.back b hb).imp id fun z => ?_
    by_cases c : b = a
    · subst c; rw [put_same] at z; cases z
    · rwa [put_ne c] at z
theorem lockE_ok {kk : Ik} {vs : List Vl} {ds : List D} {k : Vl → Env → Option Rt} (i : Inv κ env σ S U) (b : Bws S U vs ds) (n : ∀ d, d ∈ ds → ∀ a, d = .ref a → ¬ Ad κ env σ a) {Pq : Sto → Post → Prop}
    (core : ∀ S2 Q2, Inv κ env σ S2 U → Bws S2 U vs ds → (kk = .nam → ∀ a kd, ds = [.ref a] → S2 a ≠ some (.dic kd)) → (∀ z env' S' U', k z env' = some out → Step κ σ env S2 U env' S' U' → Kf S' U' z Q2) → Pq S2 Q2)
    (K : ∀ z env' S' U', k z env' = some out → Step κ σ env S U env' S' U' → Kf S' U' z Q) : lockE kk ds S Q Pq := by
  unfold lockE
  split
  · rename_i _ a
    split
    · rename_i kd h
      refine core _ _ (i.lock h (n _ (by simp) a rfl)) (b.sim (sim_lock h)) (fun _ a' kd' e z => ?_) fun z env' S' U' hk s => ?_
      · cases e; rw [put_same] at z; cases z
      · obtain ⟨e, s2⟩ := s.unlock h (n _ (by simp) a rfl)
        have kf := K z env' _ U' hk s2
        refine ⟨fun d m r => ⟨e, kf.1 d m (r.sim (sim_unlock e))⟩, fun b o hb nl ow => ?_⟩
        have ne : b ≠ a := fun c => by subst c; rw [e] at hb; cases hb
        have e3 : (S'.put b o) a = some (.lck kd) := by rw [put_ne (Ne.symm ne)]; exact e
        refine ⟨e3, ?_⟩
        rw [put_comm ne]
        refine kf.2 b o (by rw [put_ne ne]; exact hb) nl ?_
        rw [← put_comm ne]
        exact ow.sim (sim_unlock e3)
    · rename_i h
      exact core S Q i b (fun _ a' kd' e z => by cases e; exact h kd' z) K
  · rename_i h
    exact core S Q i b (fun e a' kd' e2 z => h a' e e2) K
/-! ## scopes of comprehensions -/
theorem backV_len (e0 : Env) : ∀ (own : List Nat) (e : Env), (backV e0 own e).length = e.length
  | [], e => rfl
  | i :: is, e => by unfold backV; rw [List.length_set, backV_len e0 is e]
theorem backV_in {e0 : Env} {j : Nat} : ∀ {own : List Nat} {e : Env}, j ∈ own → j < e.length → (backV e0 own e)[j]? = some ((e0[j]?).join)
  | i :: is, e, h, hl => by
    unfold backV
    by_cases c : i = j
    · subst c; rw [List.getElem?_set_self (by rw [backV_len]; exact hl)]
    · rw [List.getElem?_set_ne c]
      exact backV_in ((List.mem_cons.mp h).resolve_left (Ne.symm c)) hl
theorem backV_out {e0 : Env} {j : Nat} : ∀ {own : List Nat} {e : Env}, j ∉ own → (backV e0 own e)[j]? = e[j]?
  | [], e, _ => rfl
  | i :: is, e, h => by
    rw [List.mem_cons, not_or] at h
    unfold backV
    rw [List.getElem?_set_ne (Ne.symm h.1)]
    exact backV_out h.2
theorem wipeV_out {j : Nat} : ∀ {own : List Nat} {e : Env}, j ∉ own → (wipeV e own)[j]? = e[j]?
  | [], e, _ => rfl
  | i :: is, e, h => by
    rw [List.mem_cons, not_or] at h
    unfold wipeV
    rw [List.getElem?_set_ne (Ne.symm h.1)]
    exact wipeV_out h.2
theorem wipeD_out {j : Nat} : ∀ {own : List Nat} {e : Sl}, j ∉ own → (wipeD e own)[j]? = e[j]?
  | [], e, _ => rfl
  | i :: is, e, h => by
    rw [List.mem_cons, not_or] at h
    unfold wipeD
    rw [List.getElem?_set_ne (Ne.symm h.1)]
    exact wipeD_out h.2
theorem wipeV_len : ∀ {own : List Nat} {e : Env}, (wipeV e own).length = e.length
  | [], e => rfl
  | i :: is, e => by unfold wipeV; rw [List.length_set, wipeV_len]
theorem wipeD_len : ∀ {own : List Nat} {e : Sl}, (wipeD e own).length = e.length
  | [], e => rfl
  | i :: is, e => by unfold wipeD; rw [List.length_set, wipeD_len]
theorem wipeV_in {j : Nat} {v : Vl} : ∀ {own : List Nat} {e : Env}, j ∈ own → (wipeV e own)[j]? ≠ some (some v)
  | i :: is, e, h, z => by
    unfold wipeV at z
    by_cases c : i = j
    · subst c
      by_cases hl : i < (wipeV e is).length
      · rw [List.getElem?_set_self hl] at z; cases z
      · rw [List.getElem?_eq_none (by simp; omega)] at z; cases z
    · rw [List.getElem?_set_ne c] at z
      exact wipeV_in ((List.mem_cons.mp h).resolve_left (Ne.symm c)) z
theorem set_get {α : Type} {l : List (Option α)} {i j : Nat} {o : Option α} : (l.set i o)[j]? = if i = j ∧ j < l.length then some o else l[j]? := by
  by_cases c : i = j
  · subst c
    by_cases hl : i < l.length
    · rw [List.getElem?_set_self hl, if_pos ⟨rfl, hl⟩]
    · rw [List.getElem?_eq_none (by simp; omega), if_neg (fun h => hl h.2), List.getElem?_eq_none (by omega)]
  · rw [List.getElem?_set_ne c, if_neg fun h => c h.1]
/-- targets: shared slots -/
theorem sets_ok : ∀ {is : List Nat} {vs : List Vl} {ds : List D} {env : Env} {σ : Sl}, Rps S U vs ds → vs.length = is.length → env.length = σ.length → (∀ j v, j ∈ is → env[j]? = some (some v) → ∃ d, σ[j]? = some (some d) ∧ Rp S U v d) →
    (setAllV is vs env).length = env.length ∧ (setAll is ds σ).length = σ.length ∧ (∀ j, j ∉ is → (setAllV is vs env)[j]? = env[j]? ∧ (setAll is ds σ)[j]? = σ[j]?) ∧
      ∀ j v, j ∈ is → (setAllV is vs env)[j]? = some (some v) → ∃ d, (setAll is ds σ)[j]? = some (some d) ∧ Rp S U v d
  | [], _, _, env, σ, .nil, _, hl, hr => ⟨rfl, rfl, fun _ _ => ⟨rfl, rfl⟩, fun j v h => nomatch h⟩
  | [], _, _, env, σ, .cons _ _, h, _, _ => by cases h
  | i :: is, _, _, env, σ, .nil, h, _, _ => by cases h
  | i :: is, _, _, env, σ, .cons (v := x) (d := dx) (vs := xs) (ds := ds) r rs, h, hl, hr => by
    have hl2 : (env.set i (some x)).length = (σ.set i (some dx)).length := by rw [List.length_set, List.length_set, hl]
    have step := sets_ok (is := is) (env := env.set i (some x)) (σ := σ.set i (some dx)) rs (by simpa using h) hl2 (fun j v hj hv => by
      rw [set_get] at hv
      by_cases c : i = j ∧ j < env.length
      · rw [if_pos c] at hv; cases hv
        exact ⟨dx, by rw [set_get, if_pos ⟨c.1, by rw [← hl]; exact c.2⟩], r⟩
      · rw [if_neg c] at hv
        obtain ⟨d, h1, h2⟩ := hr j v (List.mem_cons_of_mem _ hj) hv
        exact ⟨d, by rw [set_get, if_neg (fun z => c ⟨z.1, by rw [hl]; exact z.2⟩)]; exact h1, h2⟩)
    obtain ⟨s1, s2, s3, s4⟩ := step
    refine ⟨by unfold setAllV; rw [s1, List.length_set], by unfold setAll; rw [s2, List.length_set], fun j hj => ?_, fun j v hj hv => ?_⟩
    · rw [List.mem_cons, not_or] at hj
      obtain ⟨e1, e2⟩ := s3 j hj.2
      unfold setAllV setAll
      rw [e1, e2, List.getElem?_set_ne (Ne.symm hj.1), List.getElem?_set_ne (Ne.symm hj.1)]
      exact ⟨rfl, rfl⟩
    · unfold setAllV at hv
      unfold setAll
      by_cases hm : j ∈ is
      · exact s4 j v hm hv
      · obtain ⟨e1, e2⟩ := s3 j hm
        rw [e1] at hv
        rw [e2]
        rw [set_get] at hv
        by_cases c : i = j ∧ j < env.length
        · rw [if_pos c] at hv; cases hv
          exact ⟨dx, by rw [set_get, if_pos ⟨c.1, by rw [← hl]; exact c.2⟩], r⟩
        · rw [if_neg c] at hv
          obtain ⟨d, h1, h2⟩ := hr j v hj hv
          exact ⟨d, by rw [set_get, if_neg (fun z => c ⟨z.1, by rw [hl]; exact z.2⟩)]; exact h1, h2⟩
theorem ptg_ok {β : Type} {t : Tg} {x : Vl} {dx : D} {k : Env → Option β} {r : β} (h : ptg t x env k = some r) (rx : Rp S U x dx) (hl : env.length = σ.length) (hr : ∀ j v, j ∈ t.ixs → env[j]? = some (some v) → ∃ d, σ[j]? = some (some d) ∧ Rp S U v d) :
    ∃ env2 σ2, k env2 = some r ∧ (∀ T : Sl → Prop, T σ2 → wpTg t dx σ T) ∧ env2.length = env.length ∧ σ2.length = σ.length ∧ (∀ j, j ∉ t.ixs → env2[j]? = env[j]? ∧ σ2[j]? = σ[j]?) ∧
      ∀ j v, j ∈ t.ixs → env2[j]? = some (some v) → ∃ d, σ2[j]? = some (some d) ∧ Rp S U v d := by
  cases t with
  | one i =>
    obtain ⟨s1, s2, s3, s4⟩ := sets_ok (is := [i]) (.cons rx .nil) rfl hl hr
    exact ⟨_, _, h, fun T q => q, s1, s2, s3, s4⟩
  | tup is =>
    unfold ptg at h
    dsimp only at h
    split at h
    · rename_i xs
      obtain ⟨h1, h2⟩ := gd_some h
      cases rx with
      | tup rs =>
        obtain ⟨s1, s2, s3, s4⟩ := sets_ok (is := is) rs h1 hl hr
        exact ⟨_, _, h2, fun T q => ⟨by rw [← rs.length]; exact h1, q⟩, s1, s2, s3, s4⟩
    · cases h
/-- into the scope of a comprehension, and out of it -/
theorem scope_ok {own : List Nat} {t : Tg} {x : Vl} {dx : D} {k : Env → Option Rt} {r : Rt} (hok : lcOk κ own t = true) (i : Inv κ env σ S U) (rx : Rp S U x dx) (h : ptg t x (wipeV env own) k = some r) :
    ∃ env2 σ2, k env2 = some r ∧ (∀ T : Sl → Prop, T σ2 → wpTg t dx (wipeD σ own) T) ∧ Inv κ env2 σ2 S U ∧ ∀ env3 S' U', Step κ σ2 env2 S U env3 S' U' → Step κ σ env S U (backV env own env3) S' U' := by
  unfold lcOk at hok
  rw [Bool.and_eq_true, List.all_eq_true, List.all_eq_true] at hok
  obtain ⟨o1, o2⟩ := hok
  have shr : ∀ {j : Nat}, j ∈ own → kat κ j = .shr := fun {j} h => by simpa using o1 j h
  have tin : ∀ {j : Nat}, j ∈ t.ixs → j ∈ own := fun {j} h => by simpa using o2 j h
  obtain ⟨env2, σ2, h1, h2, h3, h4, h5, h6⟩ := ptg_ok h rx (σ := wipeD σ own) (by rw [wipeV_len, wipeD_len]; exact i.len) (fun j v hj hv => absurd hv (wipeV_in (tin hj)))
  rw [wipeV_len] at h3
  rw [wipeD_len] at h4
  have out : ∀ {j : Nat}, j ∉ own → env2[j]? = env[j]? ∧ σ2[j]? = σ[j]? := fun {j} hj => by
    obtain ⟨e1, e2⟩ := h5 j fun z => hj (tin z)
    exact ⟨e1.trans (wipeV_out hj), e2.trans (wipeD_out hj)⟩
  have nsh : ∀ {j : Nat}, kat κ j ≠ .shr → j ∉ own := fun {j} h z => h (shr z)
  have ads : ∀ {a : Addr}, Ad κ env2 σ2 a → Ad κ env σ a := fun {a} ⟨j, v, g1, g2, g3⟩ => by
    obtain ⟨e1, e2⟩ := out (nsh (ow_ne g1).1)
    exact ⟨j, v, g1, e1 ▸ g2, e2 ▸ g3⟩
  have i2 : Inv κ env2 σ2 S U := by
    refine ⟨by rw [h3, h4]; exact i.len, i.dom, fun j v hv => ?_, fun p q v w g1 g2 g3 g4 g5 a => ?_, fun p q v b g1 g2 g3 g4 g5 => ?_, fun p b g1 g2 => i.alv p b g1 ((out (nsh (by rw [g1]; decide))).2 ▸ g2)⟩
    · by_cases hj : j ∈ t.ixs
      · obtain ⟨d, e1, e2⟩ := h6 j v hj hv
        exact ⟨d, e1, by rw [shr (tin hj)]; exact e2⟩
      · by_cases ho : j ∈ own
        · rw [(h5 j hj).1] at hv; exact absurd hv (wipeV_in ho)
        · obtain ⟨e1, e2⟩ := out ho
          rw [e1] at hv; rw [e2]; exact i.rel j v hv
    · obtain ⟨e1, e2⟩ := out (nsh (ow_ne g1).1)
      obtain ⟨e3, e4⟩ := out (nsh g2)
      rw [e1] at g4; rw [e3] at g5; rw [e2, e4]
      exact i.dis p q v w g1 g2 g3 g4 g5 a
    · obtain ⟨e1, e2⟩ := out (nsh (ow_ne g1).1)
      obtain ⟨e3, e4⟩ := out (nsh (by rw [g2]; decide : kat κ q ≠ .shr))
      rw [e1] at g4; rw [e2] at g5; rw [e4]
      exact i.dio p q v b g1 g2 g3 g4 g5
  refine ⟨env2, σ2, h1, h2, i2, fun env3 S' U' s => ?_⟩
  have hlen : env3.length = env.length := by rw [s.mo.len, h3]
  have le : ∀ {j : Nat} {v : Vl}, (backV env own env3)[j]? = some (some v) → ∃ v' : Vl, env[j]? = some (some v') := fun {j v} hv => by
    by_cases ho : j ∈ own
    · by_cases hl : j < env3.length
      · rw [backV_in ho hl] at hv
        cases he : env[j]? with
        | none => rw [he] at hv; cases hv
        | some o => rw [he] at hv; cases o with
          | none => cases hv
          | some u => exact ⟨u, rfl⟩
      · rw [List.getElem?_eq_none (by rw [backV_len]; omega)] at hv; cases hv
    · rw [backV_out ho] at hv
      obtain ⟨u, hu⟩ := s.mo.less j v hv
      rw [(out ho).1] at hu
      exact ⟨u, hu⟩
  refine ⟨⟨by rw [backV_len, hlen]; exact i.len, s.inv.dom, fun j v hv => ?_, fun p q v w g1 g2 g3 g4 g5 => ?_, fun p q v b g1 g2 g3 g4 g5 => (let ⟨v', y⟩ := le g4; i.dio p q v' b g1 g2 g3 y g5), fun p b g1 g2 => s.fm.alive b (i.alv p b g1 g2)⟩, s.fm.wide fun b h => ads h, ⟨by rw [backV_len, hlen], fun j hk => ?_, fun j w hw => le hw⟩⟩
  · by_cases ho : j ∈ own
    · have hv2 : env[j]? = some (some v) := by
        by_cases hl : j < env3.length
        · rw [backV_in ho hl] at hv
          cases he : env[j]? with
          | none => rw [he] at hv; cases hv
          | some o => rw [he] at hv; cases o with
            | none => cases hv
            | some u => cases hv; rfl
        · rw [List.getElem?_eq_none (by rw [backV_len]; omega)] at hv; cases hv
      obtain ⟨d, e1, e2⟩ := i.rel j v hv2
      rw [shr ho] at e2 ⊢
      exact ⟨d, e1, Rp.fm s.fm (fun b h => i2.ad h) e2⟩
    · rw [backV_out ho] at hv
      obtain ⟨d, e1, e2⟩ := s.inv.rel j v hv
      exact ⟨d, (out ho).2 ▸ e1, e2⟩
  · obtain ⟨v', y1⟩ := le g4
    obtain ⟨w', y2⟩ := le g5
    exact i.dis p q v' w' g1 g2 g3 y1 y2
  · by_cases ho : j ∈ own
    · by_cases hl : j < env3.length
      · rw [backV_in ho hl, List.getElem?_eq_getElem (by omega)]; rfl
      · rw [List.getElem?_eq_none (by rw [backV_len]; omega), List.getElem?_eq_none (by omega)]
    · rw [backV_out ho, s.mo.same j hk]; exact (out ho).1
/-- what is walked stays -/
def Stays (S0 : Sto) (ds : List D) (κ : List Kd) (env : Env) (σ : Sl) (S : Sto) : Prop := ∀ a, .ref a ∈ ds → S a = S0 a ∧ S a ≠ none ∧ ¬ Ad κ env σ a
theorem Stays.step {S0 : Sto} {ds : List D} (h : Stays S0 ds κ env σ S) (s : Step κ σ env S U env' S' U') : Stays S0 ds κ env' σ S' := fun a ha => by
  obtain ⟨h1, h2, h3⟩ := h a ha
  have e := s.fm.keep a h2 h3
  exact ⟨e.trans h1, by rw [e]; exact h2, fun z => h3 (s.mo.ad z)⟩
theorem plc_ok {S0 : Sto} {ds : List D} {chk : Sto → Prop} (hc : ∀ S', (∀ a, .ref a ∈ ds → S' a = S0 a) → chk S') {el : Vl → Env → (Option Vl → Env → Option Rt) → Option Rt} {wel : D → Sto → (Option D → Sto → Prop) → Prop}
    (hel : ∀ x dx env S U K R, el x env K = some out → Inv κ env σ S U → Rp S U x dx → (∀ r env' rd S' U', K r env' = some out → Step κ σ env S U env' S' U' → (match r, rd with | some y, some dy => Rp S' U' y dy | none, none => True | _, _ => False) → R rd S') → wel dx S R) :
    ∀ {items : List Vl} {u : List D} {acc : List Vl} {accd : List D} {env : Env} {S : Sto} {U : Addr → Prop} {k : List Vl → Env → Option Rt} {T : List D → Sto → Prop}, plc el items acc env k = some out → Inv κ env σ S U → Rps S U items u → Rps S U acc accd → Stays S0 ds κ env σ S →
      (∀ row env' rd S' U', k row env' = some out → Step κ σ env S U env' S' U' → Rps S' U' row rd → T rd S') → wpLC chk wel u accd S T
  | [], _, acc, accd, env, S, U, k, T, h, i, .nil, ra, st, K => by
    unfold plc at h
    exact ⟨hc S fun a ha => (st a ha).1, K acc env accd S U h (.refl i) ra⟩
  | x :: xs, _, acc, accd, env, S, U, k, T, h, i, .cons (d := dx) (ds := us) rx rxs, ra, st, K => by
    unfold plc at h
    refine ⟨hc S fun a ha => (st a ha).1, hel x dx env S U _ _ h i rx fun r env1 rd S1 U1 h1 s1 q => ?_⟩
    match r, rd, q, h1 with
    | some y, some dy, q, h1 =>
      obtain ⟨hl, h2⟩ := gd_some h1
      refine ⟨by rw [← ra.length]; exact hl, plc_ok hc hel h2 s1.inv (rxs.step i s1) ((ra.step i s1).append (.cons q .nil)) (st.step s1) fun row env2 rd S2 U2 h3 s2 r2 => K row env2 rd S2 U2 h3 (s1.trans i s2) r2⟩
    | none, none, _, h1 =>
      exact plc_ok hc hel h1 s1.inv (rxs.step i s1) (ra.step i s1) (st.step s1) fun row env2 rd S2 U2 h3 s2 r2 => K row env2 rd S2 U2 h3 (s1.trans i s2) r2
    | some _, none, q, _ => exact q.elim
    | none, some _, q, _ => exact q.elim
theorem pdc_ok {S0 : Sto} {ds : List D} {chk : Sto → Prop} (hc : ∀ S', (∀ a, .ref a ∈ ds → S' a = S0 a) → chk S') {el : Vl → Env → (Option (Vl × Vl) → Env → Option Rt) → Option Rt} {wel : D → Sto → (Option (D × D) → Sto → Prop) → Prop}
    (hel : ∀ x dx env S U K R, el x env K = some out → Inv κ env σ S U → Rp S U x dx → (∀ r env' rd S' U', K r env' = some out → Step κ σ env S U env' S' U' → (match r, rd with | some y, some dy => Rp S' U' y.1 dy.1 ∧ Rp S' U' y.2 dy.2 | none, none => True | _, _ => False) → R rd S') → wel dx S R) :
    ∀ {items : List Vl} {u : List D} {acc : List (L2.Key × Vl)} {accd : List (L2.Key × D)} {env : Env} {S : Sto} {U : Addr → Prop} {k : List (L2.Key × Vl) → Env → Option Rt} {T : List (L2.Key × D) → Sto → Prop}, pdc el items acc env k = some out → Inv κ env σ S U → Rps S U items u → Rpk S U acc accd → Stays S0 ds κ env σ S →
      (∀ row env' rd S' U', k row env' = some out → Step κ σ env S U env' S' U' → Rpk S' U' row rd → T rd S') → wpDC chk wel u accd S T
  | [], _, acc, accd, env, S, U, k, T, h, i, .nil, ra, st, K => by
    unfold pdc at h
    exact ⟨hc S fun a ha => (st a ha).1, K acc env accd S U h (.refl i) ra⟩
  | x :: xs, _, acc, accd, env, S, U, k, T, h, i, .cons (d := dx) (ds := us) rx rxs, ra, st, K => by
    unfold pdc at h
    refine ⟨hc S fun a ha => (st a ha).1, hel x dx env S U _ _ h i rx fun r env1 rd S1 U1 h1 s1 q => ?_⟩
    match r, rd, q, h1 with
    | some (ky, y), some (dk, dy), q, h1 =>
      obtain ⟨key, hk, h2⟩ := ob_some h1
      obtain ⟨hl, h3⟩ := gd_some h2
      refine ⟨key, key_of hk (.inl q.1), by rw [← ra.length]; exact hl, pdc_ok hc hel h3 s1.inv (rxs.step i s1) ((ra.step i s1).put key q.2) (st.step s1) fun row env2 rd S2 U2 h3 s2 r2 => K row env2 rd S2 U2 h3 (s1.trans i s2) r2⟩
    | none, none, _, h1 =>
      exact pdc_ok hc hel h1 s1.inv (rxs.step i s1) (ra.step i s1) (st.step s1) fun row env2 rd S2 U2 h3 s2 r2 => K row env2 rd S2 U2 h3 (s1.trans i s2) r2
    | some _, none, q, _ => exact q.elim
    | none, some _, q, _ => exact q.elim
variable {P : Pr} {C : Cal} {Wc : Callee}
theorem ok_lc {own : List Nat} {t : Tg} {kk : Ik} {it : List E} {c x : E} (ihi : ∀ e ∈ it, IHe P C Wc e) (ihc : IHe P C Wc c) (ihx : IHe P C Wc x) : IHe P C Wc (.lc own t kk it c x) := fun κ env k out σ S U X Q h i K => by
  simp only [pe, wpE] at *
  refine pbs_ok ihi κ env _ out σ S U X _ h i fun vs κ1 env1 ds S1 U1 h1 l1 s1 b1 n1 => ?_
  obtain ⟨items, hit, h2⟩ := ob_some h1
  obtain ⟨hok, h2⟩ := cnd_some h2
  have i1 := l1.inv s1.inv
  refine lockE_ok (out := out) (k := k) i1 b1 n1 (fun S2 Q2 i2 b2 lk K2 => ?_) fun z env' S' U' hk s => K.kf i hk (s1.lent i l1 s)
  refine vItems_ok hit b2 ?_ fun u chk ru hc => ?_
  · intro a kd e
    cases kk with
    | nam => exact lk rfl a kd e
    | val =>
      subst e
      cases b2 with
      | cons b bs =>
        cases bs
        intro z
        unfold vItems at hit
        rename_i v
        cases v <;> try (cases hit; done)
        all_goals first
          | (obtain ⟨_, e, _⟩ := b.tup; cases e; done)
          | (have e := b.scr; cases e; done)
          | (have e := b.str; cases e; done)
          | (obtain ⟨_, _, e, e1, _⟩ := b.lst; cases e; rw [z] at e1; cases e1; done)
    | rng =>
      subst e
      cases b2 with
      | cons b bs =>
        cases bs
        rename_i v
        cases v <;> try (cases hit; done)
        have e := b.int; cases e
    | zip =>
      subst e
      cases b2 with
      | cons b bs =>
        cases bs
        rename_i v
        cases v <;> cases hit
  · refine plc_ok (σ := σ) (κ := κ1) (S0 := S2) (ds := ds) hc (fun x' dx env S U K R he i rx KR => ?_) h2 i2 ru .nil (fun a ha => ⟨rfl, ?_, n1 _ ha a rfl⟩) fun row env' rd S' U' hk s r => (K2 (.lst row) env' S' U' hk s).lst r
    · obtain ⟨env2, σ2, g1, g2, g3, g4⟩ := scope_ok hok i rx he
      refine g2 _ ?_
      refine tst_ok (k := fun b env3 => cnd b (pe C P x κ1 env3 fun y env4 => K (some y) (backV env own env4)) (K none (backV env own env3))) ihc g1 g3 fun t env3 S3 U3 y1 y2 => ?_
      cases t with
      | false => rw [if_neg Bool.false_ne_true]; exact KR none _ none S3 U3 y1 (g4 env3 S3 U3 y2) trivial
      | true =>
        rw [if_pos rfl]
        refine ihx κ1 env3 _ out σ2 S3 U3 X _ y1 y2.inv fun y env4 d S4 U4 z1 z2 z3 => ?_
        obtain ⟨U5, z4, z5⟩ := z3.shareS y2.inv z2
        exact KR (some y) _ (some d) S4 U5 z1 (g4 env4 S4 U5 (y2.trans g3 z4)) z5
    · have al : ∀ {vs : List Vl} {ds : List D}, Bws S2 U1 vs ds → .ref a ∈ ds → S2 a ≠ none := fun {vs ds} b h => by
        induction b with
        | nil => cases h
        | cons b bs ih =>
          rcases List.mem_cons.mp h with e | e
          · subst e; exact Bw.alive i2.dom b
          · exact ih e
      exact al b2 ha
theorem ok_dc {own : List Nat} {t : Tg} {kk : Ik} {it : List E} {c kx x : E} (ihi : ∀ e ∈ it, IHe P C Wc e) (ihc : IHe P C Wc c) (ihk : IHe P C Wc kx) (ihx : IHe P C Wc x) : IHe P C Wc (.dc own t kk it c kx x) := fun κ env k out σ S U X Q h i K => by
  simp only [pe, wpE] at *
  refine pbs_ok ihi κ env _ out σ S U X _ h i fun vs κ1 env1 ds S1 U1 h1 l1 s1 b1 n1 => ?_
  obtain ⟨items, hit, h2⟩ := ob_some h1
  obtain ⟨hok, h2⟩ := cnd_some h2
  have i1 := l1.inv s1.inv
  refine lockE_ok (out := out) (k := k) i1 b1 n1 (fun S2 Q2 i2 b2 lk K2 => ?_) fun z env' S' U' hk s => K.kf i hk (s1.lent i l1 s)
  refine vItems_ok hit b2 ?_ fun u chk ru hc => ?_
  · intro a kd e
    cases kk with
    | nam => exact lk rfl a kd e
    | val =>
      subst e
      cases b2 with
      | cons b bs =>
        cases bs
        intro z
        unfold vItems at hit
        rename_i v
        cases v <;> try (cases hit; done)
        all_goals first
          | (obtain ⟨_, e, _⟩ := b.tup; cases e; done)
          | (have e := b.scr; cases e; done)
          | (have e := b.str; cases e; done)
          | (obtain ⟨_, _, e, e1, _⟩ := b.lst; cases e; rw [z] at e1; cases e1; done)
    | rng =>
      subst e
      cases b2 with
      | cons b bs =>
        cases bs
        rename_i v
        cases v <;> try (cases hit; done)
        have e := b.int; cases e
    | zip =>
      subst e
      cases b2 with
      | cons b bs =>
        cases bs
        rename_i v
        cases v <;> cases hit
  · refine pdc_ok (σ := σ) (κ := κ1) (S0 := S2) (ds := ds) hc (fun x' dx env S U K R he i rx KR => ?_) h2 i2 ru .nil (fun a ha => ⟨rfl, ?_, n1 _ ha a rfl⟩) fun row env' rd S' U' hk s r => (K2 (.dic row) env' S' U' hk s).dic r
    · obtain ⟨env2, σ2, g1, g2, g3, g4⟩ := scope_ok hok i rx he
      refine g2 _ ?_
      refine tst_ok (k := fun b env3 => cnd b (pe C P kx κ1 env3 fun y env4 => pe C P x κ1 env4 fun z env5 => K (some (y, z)) (backV env own env5)) (K none (backV env own env3))) ihc g1 g3 fun t env3 S3 U3 y1 y2 => ?_
      cases t with
      | false => rw [if_neg Bool.false_ne_true]; exact KR none _ none S3 U3 y1 (g4 env3 S3 U3 y2) trivial
      | true =>
        rw [if_pos rfl]
        refine ihk κ1 env3 _ out σ2 S3 U3 X _ y1 y2.inv fun y env4 d S4 U4 z1 z2 z3 => ?_
        obtain ⟨U5, z4, z5⟩ := z3.shareS y2.inv z2
        refine ihx κ1 env4 _ out σ2 S4 U5 X _ z1 z4.inv fun y2' env5 d2 S6 U6 w1 w2 w3 => ?_
        obtain ⟨U7, w4, w5⟩ := w3.shareS z4.inv w2
        exact KR (some (y, y2')) _ (some (d, d2)) S6 U7 w1 (g4 env5 S6 U7 (y2.trans g3 (z4.trans y2.inv w4))) ⟨z5.step z4.inv w4, w5⟩
    · have al : ∀ {vs : List Vl} {ds : List D}, Bws S2 U1 vs ds → .ref a ∈ ds → S2 a ≠ none := fun {vs ds} b h => by
        induction b with
        | nil => cases h
        | cons b bs ih =>
          rcases List.mem_cons.mp h with e | e
          · subst e; exact Bw.alive i2.dom b
          · exact ih e
      exact al b2 ha
end
end Mp

namespace Mp
open PySem
section
variable {S S' S1 S2 S3 : Sto} {U U' U1 U2 : Addr → Prop} {κ κ1 κ2 : List Kd} {env env' env1 env2 env3 : Env} {σ σ' σ2 : Sl} {v w z : Vl} {d : D} {out : Rt} {Q : Post} {X : XPost} {a b c e : E}
variable {P : Pr} {C : Cal} {Wc : Callee}
theorem join_some {o : Option (Option Vl)} {x : Vl} (h : o.join = some x) : o = some (some x) := by
  cases o with
  | none => cases h
  | some o => cases o with
    | none => cases h
    | some y => cases h; rfl
theorem ow_ref {j : Nat} {x : Vl} (i : Inv κ env σ S U) (ho : (kat κ j).ow = true) (hx : env[j]? = some (some x)) (m : x.mut = true) : ∃ a, σ[j]? = some (some (.ref a)) ∧ U a ∧ Ow S U x a ∧ ∀ kd, S a ≠ some (.lck kd) := by
  obtain ⟨d, h1, h2⟩ := i.rel j x hx
  rw [own_of ho] at h2
  obtain ⟨⟨a, rfl, u, o⟩, nl⟩ := Owx.own m h2
  exact ⟨a, h1, u, o, fun kd => nl a kd rfl⟩
theorem ok_mth {m : Mt} {o : E} {es : List E} (iho : IHe P C Wc o) (ih : ∀ e ∈ es, IHe P C Wc e) : IHe P C Wc (.mth m o es) := fun κ env k out σ S U X Q h i K => by
  simp only [pe, wpE] at *
  by_cases hm : m = .index
  · subst hm
    have h : (pb o (pe C P o) κ env fun x κ1 env => cnd (mOk .index x) (pes C P es κ1 env fun ys env => ob (vIndex x ys) fun z => k z env) none) = some out := h
    refine pb_ok iho h i fun x κ1 env1 dx S1 U1 h1 l1 s1 b1 n1 => ?_
    obtain ⟨ho, h1⟩ := cnd_some h1
    obtain ⟨u, rfl⟩ := mOk_lst ho
    obtain ⟨a, du, rfl, e, _⟩ := b1.lst
    refine ⟨⟨_, e⟩, ?_⟩
    refine pes_ok ih κ1 env1 _ out σ S1 U1 X _ h1 (l1.inv s1.inv) fun ys env2 ds S2 U2 h2 s2 r2 => ?_
    obtain ⟨z, hz, h3⟩ := ob_some h2
    exact vIndex_ok hz (b1.step (l1.inv s1.inv) s2 n1).1 r2 fun d r => K.rp h3 (s1.lent i l1 s2) (fun z => by unfold fresh at z; cases z) r
  · rw [show (decide (m = .index)) = false from decide_eq_false hm] at h
    have h : (chg o κ env fun i x => cnd (mOk m x) (pes C P es (κ.set i .bor) env fun ys env => ob (env[i]?).join fun x => ob (vMth m x ys) fun r => k r.1 (env.set i (some r.2))) none) = some out := h
    obtain ⟨j, x0, e1, hx0, ho, h5⟩ := chg_some h
    subst e1
    obtain ⟨hmo, h6⟩ := cnd_some h5
    obtain ⟨u0, rfl⟩ := mOk_lst hmo
    simp only [wpE]
    obtain ⟨a, ha, ua, oa, _⟩ := ow_ref i ho hx0 rfl
    obtain ⟨ds0, hs0, _⟩ := oa.lst'
    refine ⟨.ref a, ha, mOk_ok hmo ⟨_, hs0⟩, ?_⟩
    have lt := Lt.bor ho
    refine pes_ok ih (κ.set j .bor) env _ out σ S U X _ h6 (lt.inv i) fun ys env' ds S' U' h1 s1 r1 => ?_
    have e := s1.mo.same j (by rw [kat_set ho, if_pos rfl]; rfl)
    rw [hx0] at e
    have s2 := lt.back i s1
    obtain ⟨a', h1', _, oa', _⟩ := ow_ref s2.inv ho e rfl
    rw [ha] at h1'; cases h1'
    obtain ⟨x, hx, h2⟩ := ob_some h1
    have hx := join_some hx
    rw [e] at hx; cases hx
    obtain ⟨r, hr, h3⟩ := ob_some h2
    obtain ⟨t1, t2⟩ := vMth_ok (Q := Q) hr oa' r1
    refine t2 fun dd oo rd nl own => ?_
    have s3 := Step.mut (x' := r.2) s2.inv nl ho e ha (fun f _ => own _ put_same f)
    exact K.rp h3 (s2.trans i s3) (fun z => by unfold fresh at z; cases z) (rd.step s2.inv s3)
theorem ok_dlit {es : List E} (ih : ∀ e ∈ es, IHe P C Wc e) : IHe P C Wc (.dlit es) := fun κ env k out σ S U X Q h i K => by
  simp only [pe, wpE] at *
  refine pes_ok ih κ env _ out σ S U X _ h i fun vs env' ds S' U' h1 s1 r1 => ?_
  obtain ⟨ps, hp, h2⟩ := ob_some h1
  obtain ⟨hl, h3⟩ := gd_some h2
  obtain ⟨pd, e, r⟩ := pairs_rp r1 hp
  exact ⟨pd, e, by rw [← r.length]; exact hl, (K.kf i h3 s1).dic (r.merge .nil)⟩
theorem ok_dget {o kx : E} {dd : List E} (iho : IHe P C Wc o) (ihk : IHe P C Wc kx) (ihd : ∀ e ∈ dd, IHe P C Wc e) : IHe P C Wc (.dget o kx dd) := fun κ env k out σ S U X Q h i K => by
  simp only [pe, wpE] at *
  refine pb_ok iho h i fun x κ1 env1 dx S1 U1 h1 l1 s1 b1 n1 => ?_
  obtain ⟨hd, h1⟩ := cnd_some h1
  have hdic : ∃ z, x = .dic z := by cases x <;> first | exact ⟨_, rfl⟩ | cases hd
  obtain ⟨kvs, rfl⟩ := hdic
  have i1 := l1.inv s1.inv
  obtain ⟨a, kd, rfl, e, _⟩ := b1.dic
  refine ⟨by unfold isD; rcases e with e | e <;> simp only [e], ihk κ1 env1 _ out σ S1 U1 X _ h1 i1 fun y env2 dy S2 U2 h2 s2 r2 => ?_⟩
  obtain ⟨U3, s3, r3⟩ := r2.shareS i1 s2
  refine pes_ok ihd κ1 env2 _ out σ S2 U3 X _ h2 s3.inv fun zs env3 dz S3 U4 h3 s4 r4 => ?_
  obtain ⟨r, hr, h4⟩ := ob_some h3
  obtain ⟨b2, n2⟩ := b1.step i1 s3 n1
  obtain ⟨b3, n3⟩ := b2.step s3.inv s4 n2
  have st := s1.lent i l1 (s3.trans i1 s4)
  have nf : ∀ {t : Vl}, fresh P.R κ (.dget o kx dd) = true → t.mut = false := fun z => by unfold fresh at z; cases z
  refine ⟨a, rfl, ?_⟩
  obtain ⟨a', e', g⟩ := dGet_rp (T := fun r => (fun (dz : List D) => match dz with | [] => Q (r.getD .non) S3 | [z] => Q (r.getD z) S3 | _ => False) dz) hr b3 (.inl (r3.step s3.inv s4)) fun od g1 g2 => by
    cases r4 with
    | nil =>
      cases r with
      | none => rw [g1 rfl]; exact K.rp h4 st nf .non
      | some v => obtain ⟨d, e, rv⟩ := g2 v rfl; rw [e]; exact K.rp h4 st nf rv
    | cons ra rb =>
      cases rb with
      | nil =>
        cases r with
        | none => rw [g1 rfl]; exact K.rp h4 st nf ra
        | some v => obtain ⟨d, e, rv⟩ := g2 v rfl; rw [e]; exact K.rp h4 st nf rv
      | cons _ _ => cases h4
  cases e'
  exact g
theorem ok_dsd {o kx dd : E} (ihk : IHe P C Wc kx) (ihd : IHe P C Wc dd) : IHe P C Wc (.dsd o kx dd) := fun κ env k out σ S U X Q h i K => by
  simp only [pe, wpE] at *
  obtain ⟨j, x0, e1, hx0, ho, h5⟩ := chg_some h
  subst e1
  obtain ⟨hd, h6⟩ := cnd_some h5
  have hdic : ∃ z, x0 = .dic z := by cases x0 <;> first | exact ⟨_, rfl⟩ | cases hd
  obtain ⟨kvs, rfl⟩ := hdic
  simp only [wpE]
  obtain ⟨a, ha, ua, oa, _⟩ := ow_ref i ho hx0 rfl
  obtain ⟨kd, e, _⟩ := oa.dic'
  refine ⟨.ref a, ha, by unfold isD; rcases e with e | e <;> simp only [e], ?_⟩
  have lt := Lt.bor ho
  have i1 := lt.inv i
  refine ihk (κ.set j .bor) env _ out σ S U X _ h6 i1 fun y env2 dy S2 U2 h2 s2 r2 => ?_
  obtain ⟨U3, s3, r3⟩ := r2.shareS i1 s2
  refine ihd (κ.set j .bor) env2 _ out σ S2 U3 X _ h2 s3.inv fun z env3 dz S3 U4 h3 s4 r4 => ?_
  obtain ⟨U5, s5, r5⟩ := r4.shareS s3.inv s4
  have sA := s3.trans i1 s5
  have e1 := sA.mo.same j (by rw [kat_set ho, if_pos rfl]; rfl)
  rw [hx0] at e1
  have st := lt.back i sA
  obtain ⟨x, hx, h7⟩ := ob_some h3
  have hx := join_some hx
  rw [e1] at hx; cases hx
  obtain ⟨key, hk, h8⟩ := ob_some h7
  obtain ⟨hl, h9⟩ := gd_some h8
  obtain ⟨a', h1', _, oa', nlk⟩ := ow_ref st.inv ho e1 rfl
  rw [ha] at h1'; cases h1'
  obtain ⟨kd2, e2, q⟩ := oa'.dic'
  have e2 := e2.resolve_right (nlk kd2)
  obtain ⟨g1, g2⟩ := q.get key
  have ry := r3.step s3.inv s5
  have nf : ∀ {t : Vl}, fresh P.R κ (.dsd (.v j) kx dd) = true → t.mut = false := fun z => by unfold fresh at z; cases z
  refine ⟨a, kd2, key, rfl, e2, key_of hk (.inl ry), by rw [← q.length]; exact hl, fun v hv => ?_, fun hn => ?_⟩
  · cases hg : getV kvs key with
    | none => rw [g1 hg] at hv; cases hv
    | some w =>
      rw [hg] at h9
      obtain ⟨d, y1, y2⟩ := g2 w hg
      rw [hv] at y1; cases y1
      exact K.rp h9 st nf y2
  · cases hg : getV kvs key with
    | some w => obtain ⟨d, y1, _⟩ := g2 w hg; rw [hn] at y1; cases y1
    | none =>
      rw [hg] at h9
      have s7 := Step.mut (x' := .dic (putV kvs key z)) (o := .dic (putD kd2 key dz)) st.inv (fun _ z => nomatch z) ho e1 ha (fun _ f => .dic (.inl put_same) (f _ _ (q.put key r5)))
      exact K.rp h9 (st.trans i s7) nf (r5.step st.inv s7)
theorem ok_lrg {tp : Bool} {es : List E} (ih : ∀ e ∈ es, IHe P C Wc e) : IHe P C Wc (.lrg tp es) := fun κ env k out σ S U X Q h i K => by
  simp only [pe, wpE] at *
  refine pes_ok ih κ env _ out σ S U X _ h i fun vs env' ds S' U' h1 s1 r1 => ?_
  obtain ⟨⟨a, b⟩, hr, h2⟩ := ob_some h1
  have key : rgArgs ds = some (a, b) ∧ ((small a ∧ small b) ∧ (b - a).toNat ≤ sizeLine) := by
    unfold vRg at hr
    split at hr
    · obtain ⟨g1, g2⟩ := gd_some hr; cases g2
      cases r1 with
      | cons x y => cases y; cases x; exact ⟨rfl, g1⟩
    · obtain ⟨g1, g2⟩ := gd_some hr; cases g2
      cases r1 with
      | cons x y => cases y with
        | cons y w => cases w; cases x; cases y; exact ⟨rfl, g1⟩
    · cases hr
  refine ⟨(a, b), key.1, key.2, ?_⟩
  cases tp with
  | true => rw [if_pos rfl]; exact K.rp (z := .tup (rgVl a b)) h2 s1 (fun _ => rfl) (.tup (rg_rp a b))
  | false => rw [if_neg Bool.false_ne_true]; exact (K.kf (z := .lst (rgVl a b)) i h2 s1).lst (rg_rp a b)
theorem ok_lset (iha : IHe P C Wc a) : IHe P C Wc (.lset a) := fun κ env k out σ S U X Q h i K => by
  simp only [pe, wpE] at *
  refine pb_ok iha h i fun x κ1 env' dx S' U' h1 l1 s1 b1 _ => ?_
  obtain ⟨z, hz, h2⟩ := ob_some h1
  obtain ⟨m, rfl⟩ := vLset_int hz
  exact vLset_ok hz b1 (K.rp h2 s1 (fun _ => rfl) (.int _))
theorem ok_mxd {mx : Bool} {dd : E} (iha : IHe P C Wc a) (ihd : IHe P C Wc dd) : IHe P C Wc (.mxd mx a dd) := fun κ env k out σ S U X Q h i K => by
  simp only [pe, wpE] at *
  refine pb_ok iha h i fun x κ1 env1 dx S1 U1 h1 l1 s1 b1 n1 => ihd κ1 env1 _ out σ S1 U1 X _ h1 (l1.inv s1.inv) fun y env2 dy S2 U2 h2 s2 r2 => ?_
  obtain ⟨U3, s3, r3⟩ := r2.shareS (l1.inv s1.inv) s2
  obtain ⟨z, hz, h3⟩ := ob_some h2
  exact vMx_ok hz (b1.step (l1.inv s1.inv) s3 n1).1 r3 fun d r => K.rp h3 (s1.lent i l1 s3) (fun z => by unfold fresh at z; cases z) r
theorem ok_lzip (iha : IHe P C Wc a) (ihb : IHe P C Wc b) : IHe P C Wc (.lzip a b) := fun κ env k out σ S U X Q h i K => by
  simp only [pe, wpE] at *
  refine pb2_ok iha ihb h i fun x y κ1 env' dx dy S' U' h1 l1 s1 b1 b2 _ _ => ?_
  obtain ⟨z, hz, h2⟩ := ob_some h1
  exact vZip_ok hz b1 b2 (K.kf i h2 s1)
theorem ok_join (iha : IHe P C Wc a) (ihb : IHe P C Wc b) : IHe P C Wc (.join a b) := fun κ env k out σ S U X Q h i K => by
  simp only [pe, wpE] at *
  refine iha κ env _ out σ S U X _ h i fun x env1 dx S1 U1 h1 s1 r1 => ?_
  obtain ⟨hs, h1⟩ := cnd_some h1
  have hstr : ∃ z, x = .str z := by cases x <;> first | exact ⟨_, rfl⟩ | cases hs
  obtain ⟨z, rfl⟩ := hstr
  have := r1.bw.str
  subst this
  refine ⟨⟨z, rfl⟩, pb_ok ihb h1 s1.inv fun y κ1 env2 dy S2 U2 h2 l2 s2 b2 _ => ?_⟩
  obtain ⟨w, hw, h3⟩ := ob_some h2
  exact vJoin_ok hw (.inl (.str z)) b2 fun d r => K.rp h3 (s1.trans i s2) (fun z => by unfold fresh at z; cases z) r
theorem ok_fmt (iha : IHe P C Wc a) : IHe P C Wc (.fmt a) := fun κ env k out σ S U X Q h i K => by
  simp only [pe, wpE] at *
  refine iha κ env _ out σ S U X _ h i fun x env1 dx S1 U1 h1 s1 r1 => ?_
  obtain ⟨z, hz, h2⟩ := ob_some h1
  exact vFmt_ok hz r1.bw fun d r => K.rp h2 s1 (fun z => by unfold fresh at z; cases z) r
theorem pjs_ok : ∀ {es : List E}, (∀ e ∈ es, IHe P C Wc e) → ∀ (acc : Str) (κ : List Kd) (env : Env) (k : Str → Env → Option Rt) (out : Rt) (σ : Sl) (S : Sto) (U : Addr → Prop) (X : XPost) (T : Str → Sto → Prop), pjs C P es acc κ env k = some out → Inv κ env σ S U →
    (∀ z env' S' U', k z env' = some out → Step κ σ env S U env' S' U' → T z S') → wpJs Wc P.G es acc σ S X T
  | [], _, acc, κ, env, k, out, σ, S, U, X, T, h, i, K => by simp only [pjs, wpJs] at *; exact K acc env S U h (.refl i)
  | e :: es, ih, acc, κ, env, k, out, σ, S, U, X, T, h, i, K => by
    simp only [pjs, wpJs] at *
    refine ih e (List.mem_cons_self ..) κ env _ out σ S U X _ h i fun x env1 dx S1 U1 h1 s1 r1 => ?_
    split at h1
    · obtain ⟨hl, h2⟩ := gd_some h1
      exact ⟨_, r1.bw.str, hl, pjs_ok (es := es) (fun e he => ih e (List.mem_cons_of_mem _ he)) _ κ env1 k out σ S1 U1 X T h2 s1.inv fun z env' S' U' h3 s3 => K z env' S' U' h3 (s1.trans i s3)⟩
    · cases h1
theorem ok_fst {es : List E} (ih : ∀ e ∈ es, IHe P C Wc e) : IHe P C Wc (.fst es) := fun κ env k out σ S U X Q h i K => by
  simp only [pe, wpE] at *
  exact pjs_ok ih _ κ env _ out σ S U X _ h i fun z env' S' U' h1 s1 => K.rp h1 s1 (fun z => by unfold fresh at z; cases z) (.str z)
end
end Mp

namespace Mp
open PySem

/-! ## what is evaluated on values is what the language says: expressions -/
theorem pe_ok {P : Pr} {C : Cal} {Wc : Callee} (ck : CalOk P C Wc) : ∀ e : E, IHe P C Wc e
  | .non => ok_non
  | .bl b => ok_bl
  | .int i => ok_int
  | .str x => ok_str
  | .v i => ok_v
  | .g x => ok_g
  | .tup es => ok_tup fun e he => pe_ok ck e
  | .lst es => ok_lst fun e he => pe_ok ck e
  | .dnew => ok_dnew
  | .bin o a b => ok_bin (pe_ok ck a) (pe_ok ck b)
  | .neg a => ok_neg (pe_ok ck a)
  | .not a => ok_not (pe_ok ck a)
  | .and a b => ok_and (pe_ok ck a) (pe_ok ck b)
  | .or a b => ok_or (pe_ok ck a) (pe_ok ck b)
  | .tru a => ok_tru (pe_ok ck a)
  | .cmp o a b => ok_cmp (pe_ok ck a) (pe_ok ck b)
  | .cmp2 o p a b c => ok_cmp2 (pe_ok ck a) (pe_ok ck b) (pe_ok ck c)
  | .ite c a b => ok_ite (pe_ok ck c) (pe_ok ck a) (pe_ok ck b)
  | .call f es => ok_call ck fun e he => pe_ok ck e
  | .blt f es => ok_blt fun e he => pe_ok ck e
  | .isi a t => ok_isi (pe_ok ck a)
  | .mth m o es => ok_mth (pe_ok ck o) fun e he => pe_ok ck e
  | .ix a i => ok_ix (pe_ok ck a) (pe_ok ck i)
  | .sl a lo hi => ok_sl (pe_ok ck a) (fun e he => pe_ok ck e) fun e he => pe_ok ck e
  | .lc own t k it c x => ok_lc (fun e he => pe_ok ck e) (pe_ok ck c) (pe_ok ck x)
  | .dlit es => ok_dlit fun e he => pe_ok ck e
  | .dc own t k it c kx x => ok_dc (fun e he => pe_ok ck e) (pe_ok ck c) (pe_ok ck kx) (pe_ok ck x)
  | .dget o k d => ok_dget (pe_ok ck o) (pe_ok ck k) fun e he => pe_ok ck e
  | .dsd o k d => ok_dsd (pe_ok ck k) (pe_ok ck d)
  | .lrg tp es => ok_lrg fun e he => pe_ok ck e
  | .lset a => ok_lset (pe_ok ck a)
  | .mxd mx a d => ok_mxd (pe_ok ck a) (pe_ok ck d)
  | .lzip a b => ok_lzip (pe_ok ck a) (pe_ok ck b)
  | .join s a => ok_join (pe_ok ck s) (pe_ok ck a)
  | .fst es => ok_fst fun e he => pe_ok ck e
  | .fmt e => ok_fmt (pe_ok ck e)
termination_by e => sizeOf e
decreasing_by all_goals simp_wf <;> first | omega | (have := List.sizeOf_lt_of_mem he; omega)

/-! ## statements -/
structure SSt (κ : List Kd) (σ : Sl) (env : Env) (S : Sto) (U : Addr → Prop) (σ' : Sl) (env' : Env) (S' : Sto) (U' : Addr → Prop) : Prop where
  inv : Inv κ env' σ' S' U'
  fm : Fm (Ad κ env σ) S U S' U'
  ad : ∀ a, Ad κ env' σ' a → Ad κ env σ a ∨ S a = none
  fix : ∀ i, (kat κ i = .bor ∨ kat κ i = .io) → σ'[i]? = σ[i]?
  bor : ∀ i, kat κ i = .bor → env'[i]? = env[i]?
  len : env'.length = env.length
def ResR (κ : List Kd) (fr : Bool) (σ : Sl) (S0 : Sto) (P : Addr → Prop) (S : Sto) (U : Addr → Prop) (v : Vl) (d : D) : Prop :=
  (Rp S U v d ∧ (fr = true → v.mut = false)) ∨ ∃ a, d = .ref a ∧ U a ∧ Ow S U v a ∧ (S0 a = none ∨ P a) ∧ (∀ j, kat κ j = .io → σ[j]? ≠ some (some (.ref a))) ∧ ∀ kd, S a ≠ some (.lck kd)
structure NOk (κ : List Kd) (σ : Sl) (env : Env) (S : Sto) (U : Addr → Prop) (fr : Bool) (N : Nd) (NW : En) (out : Rt) : Prop where
  nx : ∀ σ' env' S' U', N.nx env' = some out → SSt κ σ env S U σ' env' S' U' → NW.nx σ' S'
  rt : ∀ v d σ' env' S' U', N.rt v env' = some out → SSt κ σ env S U σ' env' S' U' → ResR κ fr σ' S (Ad κ env σ) S' U' v d → NW.rt d S'
  bk : ∀ σ' env' S' U', N.bk env' = some out → SSt κ σ env S U σ' env' S' U' → NW.bk σ' S'
  ct : ∀ σ' env' S' U', N.ct env' = some out → SSt κ σ env S U σ' env' S' U' → NW.ct σ' S'
section
variable {S S' S1 S2 S3 : Sto} {U U' U1 U2 : Addr → Prop} {κ κ1 κ2 : List Kd} {env env' env1 env2 env3 : Env} {σ σ' σ1 σ2 : Sl} {v w z : Vl} {d : D} {out : Rt} {Q : Post} {X : XPost} {a b c e : E} {fr : Bool} {N : Nd} {NW : En}
theorem SSt.refl (i : Inv κ env σ S U) : SSt κ σ env S U σ env S U := ⟨i, .refl, fun _ h => .inl h, fun _ _ => rfl, fun _ _ => rfl, rfl⟩
theorem Step.sst (s : Step κ σ env S U env' S' U') : SSt κ σ env S U σ env' S' U' := ⟨s.inv, s.fm, fun _ h => .inl (s.mo.ad h), fun _ _ => rfl, fun i h => s.mo.same i (by rw [h]; rfl), s.mo.len⟩
theorem SSt.trans (i : Inv κ env σ S U) (a : SSt κ σ env S U σ1 env1 S1 U1) (b : SSt κ σ1 env1 S1 U1 σ2 env2 S2 U2) : SSt κ σ env S U σ2 env2 S2 U2 := by
  refine ⟨b.inv, Fm.trans i.dom a.ad a.fm b.fm, fun x h => ?_, fun i h => (b.fix i h).trans (a.fix i h), fun i h => (b.bor i h).trans (a.bor i h), b.len.trans a.len⟩
  rcases b.ad x h with z | z
  · exact a.ad x z
  · exact .inr (Classical.byContradiction fun c => a.fm.alive x c z)
theorem ResR.back (s : SSt κ σ env S U σ1 env1 S1 U1) (h : ResR κ fr σ' S1 (Ad κ env1 σ1) S' U' v d) : ResR κ fr σ' S (Ad κ env σ) S' U' v d := by
  rcases h with h | ⟨a, e, u, o, nw, nio, nl⟩
  · exact .inl h
  · refine .inr ⟨a, e, u, o, ?_, nio, nl⟩
    rcases nw with z | z
    · exact .inl (Classical.byContradiction fun c => s.fm.alive a c z)
    · exact (s.ad a z).symm
theorem NOk.on (n : NOk κ σ env S U fr N NW out) (i : Inv κ env σ S U) (s : SSt κ σ env S U σ1 env1 S1 U1) : NOk κ σ1 env1 S1 U1 fr N NW out :=
  ⟨fun σ' env' S' U' h s2 => n.nx σ' env' S' U' h (s.trans i s2), fun v d σ' env' S' U' h s2 r => n.rt v d σ' env' S' U' h (s.trans i s2) (r.back s), fun σ' env' S' U' h s2 => n.bk σ' env' S' U' h (s.trans i s2), fun σ' env' S' U' h s2 => n.ct σ' env' S' U' h (s.trans i s2)⟩
theorem Res.rt {fr2 : Bool} (h : Res κ fr2 env' σ S (Ad κ env σ) S' U' v d) (hf : fr = true → fr2 = true) : ResR κ fr σ S (Ad κ env σ) S' U' v d := by
  rcases h with ⟨h, m⟩ | ⟨a, e, u, o, nw, _, nio, nl⟩
  · exact .inl ⟨h, fun z => m (hf z)⟩
  · exact .inr ⟨a, e, u, o, nw, nio, nl⟩
/-- what was lent is back -/
theorem Lt.backS (l : Lt κ κ1) (i : Inv κ env σ S U) (s : SSt κ1 σ env S U σ' env' S' U') : SSt κ σ env S U σ' env' S' U' := by
  have hP : ∀ b, Ad κ1 env σ b → U b := fun b h => i.ad (l.ad h)
  have lent : ∀ {j : Nat}, kat κ1 j ≠ kat κ j → (kat κ j).ow = true ∧ kat κ1 j = .bor ∧ env'[j]? = env[j]? ∧ σ'[j]? = σ[j]? := fun {j} h => by
    rcases l j with e | ⟨e1, e2⟩
    · exact absurd e h
    · exact ⟨e1, e2, s.bor j e2, s.fix j (.inl e2)⟩
  have ad1 : ∀ a, Ad κ env' σ' a → Ad κ env σ a ∨ S a = none := fun a ⟨j, v, g1, g2, g3⟩ => by
    by_cases e : kat κ1 j = kat κ j
    · rcases s.ad a ⟨j, v, by rw [e]; exact g1, g2, g3⟩ with z | z
      · exact .inl (l.ad z)
      · exact .inr z
    · obtain ⟨_, _, e3, e4⟩ := lent e
      exact .inl ⟨j, v, g1, by rw [← e3]; exact g2, by rw [← e4]; exact g3⟩
  -- a lent slot's address and one that is one's own since
  have apart : ∀ {p q : Nat} {v w : Vl} {a : Addr}, kat κ1 p = kat κ p → (kat κ p).ow = true → kat κ1 q ≠ kat κ q → env'[p]? = some (some v) → env'[q]? = some (some w) → σ'[p]? = some (some (.ref a)) → σ'[q]? = some (some (.ref a)) → False := fun {p q v w a} h1 h2 h3 h4 h5 h6 h7 => by
    obtain ⟨q1, q2, q3, q4⟩ := lent h3
    rw [q3] at h5; rw [q4] at h7
    rcases s.ad a ⟨p, v, by rw [h1]; exact h2, h4, h6⟩ with ⟨j', w', y1, y2, y3⟩ | z
    · have ne : j' ≠ q := fun c => by subst c; rw [q2] at y1; cases y1
      exact i.dis j' q w' w (by rw [l.ow y1]; exact y1) (ow_ne q1).1 ne y2 h5 a y3 h7
    · exact i.alive h5 h7 z
  refine ⟨⟨s.inv.len, s.inv.dom, fun j v h => ?_, fun p q v w h1 h2 h3 h4 h5 a h6 h7 => ?_, fun p q v a h1 h2 h3 h4 h5 h6 => ?_, fun j a h1 h2 => ?_⟩, s.fm.wide fun b h => l.ad h, ad1, fun j h => ?_, fun j h => ?_, s.len⟩
  · by_cases e : kat κ1 j = kat κ j
    · rw [← e]; exact s.inv.rel j v h
    · obtain ⟨e1, e2, e3, e4⟩ := lent e
      rw [e3] at h
      obtain ⟨d, g1, g2⟩ := i.rel j v h
      refine ⟨d, e4 ▸ g1, SlotR.fm s.fm hP (fun _ a ea ⟨j', w, y1, y2, y3⟩ => ?_) g2⟩
      subst ea
      have ne : j' ≠ j := fun c => by subst c; rw [e2] at y1; cases y1
      exact i.dis j' j w v (by rw [l.ow y1]; exact y1) (ow_ne e1).1 ne y2 h a y3 g1
  · by_cases e1 : kat κ1 p = kat κ p
    · by_cases e2 : kat κ1 q = kat κ q
      · exact s.inv.dis p q v w (by rw [e1]; exact h1) (by rw [e2]; exact h2) h3 h4 h5 a h6 h7
      · exact apart e1 h1 e2 h4 h5 h6 h7
    · obtain ⟨p1, p2, p3, p4⟩ := lent e1
      by_cases e2 : kat κ1 q = kat κ q
      · by_cases ho : (kat κ q).ow = true
        · exact apart e2 ho e1 h5 h4 h7 h6
        · -- lent from the start
          have hb : kat κ q = .bor := by cases hk : kat κ q <;> rw [hk] at h2 ho <;> first | rfl | exact absurd rfl h2 | exact absurd rfl ho
          rw [p3] at h4; rw [p4] at h6
          rw [s.bor q (e2.trans hb)] at h5; rw [s.fix q (.inl (e2.trans hb))] at h7
          exact i.dis p q v w h1 h2 h3 h4 h5 a h6 h7
      · obtain ⟨q1, q2, q3, q4⟩ := lent e2
        rw [p3] at h4; rw [p4] at h6; rw [q3] at h5; rw [q4] at h7
        exact i.dis p q v w h1 h2 h3 h4 h5 a h6 h7
  · have sq : σ'[q]? = σ[q]? := s.fix q (by
      rcases l q with e | ⟨_, e⟩
      · exact .inr (e.trans h2)
      · exact .inl e)
    by_cases e1 : kat κ1 p = kat κ p
    · rw [sq] at h6
      rcases s.ad a ⟨p, v, by rw [e1]; exact h1, h4, h5⟩ with ⟨j', w', y1, y2, y3⟩ | z
      · by_cases ne : j' = q
        · subst ne
          have : kat κ1 j' = .io := by
            rcases l j' with e | ⟨_, e⟩
            · exact e.trans h2
            · rw [e] at y1; cases y1
          exact s.inv.dio p j' v a (by rw [e1]; exact h1) this h3 h4 h5 (by rw [sq]; exact h6)
        · exact i.dio j' q w' a (by rw [l.ow y1]; exact y1) h2 ne y2 y3 h6
      · exact i.alv q a h2 h6 z
    · obtain ⟨p1, p2, p3, p4⟩ := lent e1
      rw [p3] at h4; rw [p4] at h5; rw [sq] at h6
      exact i.dio p q v a h1 h2 h3 h4 h5 h6
  · have sq : σ'[j]? = σ[j]? := s.fix j (by
      rcases l j with e | ⟨_, e⟩
      · exact .inr (e.trans h1)
      · exact .inl e)
    rw [sq] at h2
    exact s.fm.alive a (i.alv j a h1 h2)
  · rcases h with h | h
    · refine s.fix j (.inl ?_)
      rcases l j with e | ⟨_, e⟩
      · exact e.trans h
      · exact e
    · refine s.fix j ?_
      rcases l j with e | ⟨_, e⟩
      · exact .inr (e.trans h)
      · exact .inl e
  · refine s.bor j ?_
    rcases l j with e | ⟨_, e⟩
    · exact e.trans h
    · exact e
theorem NOk.lent (n : NOk κ σ env S U fr N NW out) (l : Lt κ κ1) (i : Inv κ env σ S U) : NOk κ1 σ env S U fr N NW out := by
  refine ⟨fun σ' env' S' U' h s => n.nx σ' env' S' U' h (l.backS i s), fun v d σ' env' S' U' h s r => n.rt v d σ' env' S' U' h (l.backS i s) ?_, fun σ' env' S' U' h s => n.bk σ' env' S' U' h (l.backS i s), fun σ' env' S' U' h s => n.ct σ' env' S' U' h (l.backS i s)⟩
  rcases r with r | ⟨a, e, u, o, nw, nio, nl⟩
  · exact .inl r
  · refine .inr ⟨a, e, u, o, nw.imp id (fun z => l.ad z), fun j hj hs => ?_, nl⟩
    rcases l j with e1 | ⟨e1, e2⟩
    · exact nio j (e1.trans hj) hs
    · rw [s.fix j (.inl e2)] at hs
      rcases nw with z | ⟨j', w', y1, y2, y3⟩
      · exact i.alv j a hj hs z
      · have ne : j' ≠ j := fun c => by subst c; rw [e2] at y1; cases y1
        exact i.dio j' j w' a (by rw [l.ow y1]; exact y1) hj ne y2 y3 hs
/-- a slot takes what is shared -/
theorem SSt.shr (i : Inv κ env σ S U) {j : Nat} (hk : kat κ j = .shr) (r : Rp S U v d) : SSt κ σ env S U (σ.set j (some d)) (env.set j (some v)) S U := by
  have ne : ∀ {p : Nat}, kat κ p ≠ .shr → j ≠ p := fun {p} h c => by subst c; exact h hk
  have sub : ∀ {p : Nat} (h : kat κ p ≠ .shr), (env.set j (some v))[p]? = env[p]? ∧ (σ.set j (some d))[p]? = σ[p]? := fun {p} h => ⟨List.getElem?_set_ne (ne h), List.getElem?_set_ne (ne h)⟩
  refine ⟨⟨by rw [List.length_set, List.length_set]; exact i.len, i.dom, fun p w h => ?_, fun p q v' w' h1 h2 h3 h4 h5 => ?_, fun p q v' a h1 h2 h3 h4 h5 => ?_, fun p a h1 h2 => ?_⟩, .refl, fun a ⟨p, w, g1, g2, g3⟩ => ?_, fun p h => ?_, fun p h => ?_, List.length_set ..⟩
  · rw [set_get] at h
    by_cases c : j = p ∧ p < env.length
    · rw [if_pos c] at h; cases h
      exact ⟨d, by rw [set_get, if_pos ⟨c.1, by rw [← i.len]; exact c.2⟩], by rw [← c.1, hk]; exact r⟩
    · rw [if_neg c] at h
      obtain ⟨d', h1, h2⟩ := i.rel p w h
      exact ⟨d', by rw [set_get, if_neg (fun z => c ⟨z.1, by rw [i.len]; exact z.2⟩)]; exact h1, h2⟩
  · obtain ⟨e1, e2⟩ := sub (ow_ne h1).1
    obtain ⟨e3, e4⟩ := sub h2
    rw [e1] at h4; rw [e3] at h5; rw [e2, e4]
    exact i.dis p q v' w' h1 h2 h3 h4 h5
  · obtain ⟨e1, e2⟩ := sub (ow_ne h1).1
    obtain ⟨e3, e4⟩ := sub (p := q) (by rw [h2]; decide)
    rw [e1] at h4; rw [e2] at h5; rw [e4]
    exact i.dio p q v' a h1 h2 h3 h4 h5
  · rw [(sub (p := p) (by rw [h1]; decide)).2] at h2; exact i.alv p a h1 h2
  · obtain ⟨e1, e2⟩ := sub (ow_ne g1).1
    exact .inl ⟨p, w, g1, e1 ▸ g2, e2 ▸ g3⟩
  · exact (sub (p := p) (by rcases h with h | h <;> rw [h] <;> decide)).2
  · exact (sub (p := p) (by rw [h]; decide)).1
/-- a slot takes what is held alone -/
theorem SSt.own (i0 : Inv κ env σ S U) (s : Step κ σ env S U env1 S1 U1) {j : Nat} (hk : kat κ j = .own) (r : Uq κ env1 σ S (Ad κ env σ) S1 U1 v d) : SSt κ σ env S U (σ.set j (some d)) (env1.set j (some v)) S1 U1 := by
  obtain ⟨a, rfl, u, o, nw, no, nio, nl⟩ := r
  have i := s.inv
  have hjo : (kat κ j).ow = true := by rw [hk]; rfl
  have sub : ∀ {p : Nat}, j ≠ p → (env1.set j (some v))[p]? = env1[p]? ∧ (σ.set j (some (D.ref a)))[p]? = σ[p]? := fun {p} h => ⟨List.getElem?_set_ne h, List.getElem?_set_ne h⟩
  have atj : ∀ {p : Nat} {w : Vl}, j = p → (env1.set j (some v))[p]? = some (some w) → p < env1.length := fun {p w} e h => by
    have := (List.getElem?_eq_some_iff.mp h).1
    rwa [List.length_set] at this
  refine ⟨⟨by rw [List.length_set, List.length_set]; exact i.len, i.dom, fun p w h => ?_, fun p q v' w' h1 h2 h3 h4 h5 b h6 h7 => ?_, fun p q v' b h1 h2 h3 h4 h5 h6 => ?_, fun p b h1 h2 => ?_⟩, s.fm, fun b ⟨p, w, g1, g2, g3⟩ => ?_, fun p h => ?_, fun p h => ?_, by rw [List.length_set]; exact s.mo.len⟩
  · by_cases e : j = p
    · have hl := atj e h
      subst e
      rw [List.getElem?_set_self hl] at h; cases h
      refine ⟨_, List.getElem?_set_self (by rw [← i.len]; exact hl), ?_⟩
      rw [own_of hjo]
      exact .inl ⟨⟨a, rfl, u, o⟩, fun b kd e => by cases e; exact nl kd⟩
    · rw [(sub e).1] at h; rw [(sub e).2]; exact i.rel p w h
  · by_cases e1 : j = p
    · have hl := atj e1 h4
      subst e1
      rw [List.getElem?_set_self (by rw [← i.len]; exact hl)] at h6
      cases h6
      rw [(sub h3).1] at h5; rw [(sub h3).2] at h7
      exact no q w' h5 h2 h7
    · rw [(sub e1).1] at h4; rw [(sub e1).2] at h6
      by_cases e2 : j = q
      · have hl := atj e2 h5
        subst e2
        rw [List.getElem?_set_self (by rw [← i.len]; exact hl)] at h7
        cases h7
        exact no p v' h4 (ow_ne h1).1 h6
      · rw [(sub e2).1] at h5; rw [(sub e2).2] at h7
        exact i.dis p q v' w' h1 h2 h3 h4 h5 b h6 h7
  · have e2 : j ≠ q := fun c => by subst c; rw [hk] at h2; cases h2
    rw [(sub e2).2] at h6
    by_cases e1 : j = p
    · have hl := atj e1 h4
      subst e1
      rw [List.getElem?_set_self (by rw [← i.len]; exact hl)] at h5
      cases h5
      exact nio q h2 h6
    · rw [(sub e1).1] at h4; rw [(sub e1).2] at h5
      exact i.dio p q v' b h1 h2 h3 h4 h5 h6
  · have e2 : j ≠ p := fun c => by subst c; rw [hk] at h1; cases h1
    rw [(sub e2).2] at h2; exact i.alv p b h1 h2
  · by_cases e1 : j = p
    · have hl := atj e1 g2
      subst e1
      rw [List.getElem?_set_self (by rw [← i.len]; exact hl)] at g3
      cases g3
      exact nw.symm
    · rw [(sub e1).1] at g2; rw [(sub e1).2] at g3
      exact .inl (s.mo.ad ⟨p, w, g1, g2, g3⟩)
  · exact (sub (fun c => by subst c; rcases h with h | h <;> rw [hk] at h <;> cases h)).2
  · rw [(sub (fun c => by subst c; rw [hk] at h; cases h)).1]; exact s.mo.same p (by rw [h]; rfl)
/-- .. or what cannot be changed -/
theorem SSt.ownI (i0 : Inv κ env σ S U) (s : Step κ σ env S U env1 S1 U1) {j : Nat} (hk : kat κ j = .own) (m : v.mut = false) (r : Rp S1 U1 v d) : SSt κ σ env S U (σ.set j (some d)) (env1.set j (some v)) S1 U1 := by
  have i := s.inv
  have nr := fun a => Rp.nref m r a
  have hjo : (kat κ j).ow = true := by rw [hk]; rfl
  have sub : ∀ {p : Nat}, j ≠ p → (env1.set j (some v))[p]? = env1[p]? ∧ (σ.set j (some d))[p]? = σ[p]? := fun {p} h => ⟨List.getElem?_set_ne h, List.getElem?_set_ne h⟩
  have atj : ∀ {p : Nat} {w : Vl}, j = p → (env1.set j (some v))[p]? = some (some w) → p < env1.length := fun {p w} e h => by
    have := (List.getElem?_eq_some_iff.mp h).1
    rwa [List.length_set] at this
  have no : ∀ {p : Nat} {w : Vl} {a : Addr}, j = p → (env1.set j (some v))[p]? = some (some w) → (σ.set j (some d))[p]? ≠ some (some (.ref a)) := fun {p w a} e h h6 => by
    have hl := atj e h
    subst e
    rw [List.getElem?_set_self (by rw [← i.len]; exact hl)] at h6
    exact nr a (Option.some.inj (Option.some.inj h6))
  refine ⟨⟨by rw [List.length_set, List.length_set]; exact i.len, i.dom, fun p w h => ?_, fun p q v' w' h1 h2 h3 h4 h5 b h6 h7 => ?_, fun p q v' b h1 h2 h3 h4 h5 h6 => ?_, fun p b h1 h2 => ?_⟩, s.fm, fun b ⟨p, w, g1, g2, g3⟩ => ?_, fun p h => ?_, fun p h => ?_, by rw [List.length_set]; exact s.mo.len⟩
  · by_cases e : j = p
    · have hl := atj e h
      subst e
      rw [List.getElem?_set_self hl] at h; cases h
      refine ⟨_, List.getElem?_set_self (by rw [← i.len]; exact hl), ?_⟩
      rw [own_of hjo]
      exact .inr ⟨m, r⟩
    · rw [(sub e).1] at h; rw [(sub e).2]; exact i.rel p w h
  · by_cases e1 : j = p
    · exact no e1 h4 h6
    · by_cases e2 : j = q
      · exact no e2 h5 h7
      · rw [(sub e1).1] at h4; rw [(sub e1).2] at h6
        rw [(sub e2).1] at h5; rw [(sub e2).2] at h7
        exact i.dis p q v' w' h1 h2 h3 h4 h5 b h6 h7
  · have e2 : j ≠ q := fun c => by subst c; rw [hk] at h2; cases h2
    rw [(sub e2).2] at h6
    by_cases e1 : j = p
    · exact no e1 h4 h5
    · rw [(sub e1).1] at h4; rw [(sub e1).2] at h5
      exact i.dio p q v' b h1 h2 h3 h4 h5 h6
  · have e2 : j ≠ p := fun c => by subst c; rw [hk] at h1; cases h1
    rw [(sub e2).2] at h2; exact i.alv p b h1 h2
  · by_cases e1 : j = p
    · exact absurd g3 (no e1 g2)
    · rw [(sub e1).1] at g2; rw [(sub e1).2] at g3
      exact .inl (s.mo.ad ⟨p, w, g1, g2, g3⟩)
  · exact (sub (fun c => by subst c; rcases h with h | h <;> rw [hk] at h <;> cases h)).2
  · rw [(sub (fun c => by subst c; rw [hk] at h; cases h)).1]; exact s.mo.same p (by rw [h]; rfl)
/-- slots take the items of what is shared -/
theorem SSt.tgt (i : Inv κ env σ S U) {t : Tg} {x : Vl} {dx : D} {k : Env → Option Rt} {r : Rt} (hok : tgOk κ t = true) (h : ptg t x env k = some r) (rx : Rp S U x dx) : ∃ env2 σ2, k env2 = some r ∧ (∀ T : Sl → Prop, T σ2 → wpTg t dx σ T) ∧ SSt κ σ env S U σ2 env2 S U := by
  unfold tgOk at hok
  rw [List.all_eq_true] at hok
  have shr : ∀ {j : Nat}, j ∈ t.ixs → kat κ j = .shr := fun {j} h => by simpa using hok j h
  obtain ⟨env2, σ2, h1, h2, h3, h4, h5, h6⟩ := ptg_ok h rx i.len fun j v hj hv => by
    obtain ⟨d, g1, g2⟩ := i.rel j v hv
    rw [shr hj] at g2
    exact ⟨d, g1, g2⟩
  have out : ∀ {p : Nat}, kat κ p ≠ .shr → env2[p]? = env[p]? ∧ σ2[p]? = σ[p]? := fun {p} h => h5 p fun z => h (shr z)
  refine ⟨env2, σ2, h1, h2, ⟨by rw [h3, h4]; exact i.len, i.dom, fun p w h => ?_, fun p q v' w' g1 g2 g3 g4 g5 => ?_, fun p q v' a g1 g2 g3 g4 g5 => ?_, fun p a g1 g2 => ?_⟩, .refl, fun a ⟨p, w, g1, g2, g3⟩ => ?_, fun p h => ?_, fun p h => ?_, h3⟩
  · by_cases hp : p ∈ t.ixs
    · obtain ⟨d, g1, g2⟩ := h6 p w hp h
      exact ⟨d, g1, by rw [shr hp]; exact g2⟩
    · obtain ⟨e1, e2⟩ := h5 p hp
      rw [e1] at h; rw [e2]; exact i.rel p w h
  · obtain ⟨e1, e2⟩ := out (ow_ne g1).1
    obtain ⟨e3, e4⟩ := out g2
    rw [e1] at g4; rw [e3] at g5; rw [e2, e4]
    exact i.dis p q v' w' g1 g2 g3 g4 g5
  · obtain ⟨e1, e2⟩ := out (ow_ne g1).1
    obtain ⟨e3, e4⟩ := out (p := q) (by rw [g2]; decide)
    rw [e1] at g4; rw [e2] at g5; rw [e4]
    exact i.dio p q v' a g1 g2 g3 g4 g5
  · rw [(out (p := p) (by rw [g1]; decide)).2] at g2; exact i.alv p a g1 g2
  · obtain ⟨e1, e2⟩ := out (ow_ne g1).1
    exact .inl ⟨p, w, g1, e1 ▸ g2, e2 ▸ g3⟩
  · exact (out (p := p) (by rcases h with h | h <;> rw [h] <;> decide)).2
  · exact (out (p := p) (by rw [h]; decide)).1
/-- locked, run, unlocked -/
theorem SSt.unlock {a : Addr} {kd : List (L2.Key × D)} (h : S a = some (.dic kd)) (n : ¬ Ad κ env σ a) (s : SSt κ σ env (S.put a (.lck kd)) U σ' env' S' U') : S' a = some (.lck kd) ∧ SSt κ σ env S U σ' env' (S'.put a (.dic kd)) U' := by
  have e : S' a = some (.lck kd) := by
    rw [s.fm.keep a (by rw [put_same]; simp) n, put_same]
  have nn : ∀ b, (S.put a (.lck kd)) b = none → S b = none := fun b z => by
    by_cases c : b = a
    · subst c; rw [put_same] at z; cases z
    · rwa [put_ne c] at z
  refine ⟨e, s.inv.unlock e, ⟨fun b hb hn => ?_, fun b hb => ?_, fun b hb => ?_, s.fm.fwd⟩, fun b hb => (s.ad b hb).imp id (nn b), s.fix, s.bor, s.len⟩
  · by_cases c : b = a
    · subst c; rw [put_same, h]
    · rw [put_ne c, s.fm.keep b (by rw [put_ne c]; exact hb) hn, put_ne c]
  · by_cases c : b = a
    · subst c; rw [put_same]; simp
    · rw [put_ne c]; exact s.fm.alive b (by rw [put_ne c]; exact hb)
  · exact (s.fm.back b hb).imp id (nn b)
theorem NOk.locked {a : Addr} {kd : List (L2.Key × D)} (n : NOk κ σ env S U fr N NW out) (h : S a = some (.dic kd)) (na : ¬ Ad κ env σ a) : NOk κ σ env (S.put a (.lck kd)) U fr N (lockN a kd NW) out := by
  refine ⟨fun σ' env' S' U' hn s => ?_, fun v d σ' env' S' U' hn s r => ?_, fun σ' env' S' U' hn s => ?_, fun σ' env' S' U' hn s => ?_⟩
  · obtain ⟨e, s2⟩ := s.unlock h na; exact ⟨e, n.nx _ _ _ _ hn s2⟩
  · obtain ⟨e, s2⟩ := s.unlock h na
    refine ⟨e, n.rt v d _ _ _ _ hn s2 ?_⟩
    rcases r with ⟨r, m⟩ | ⟨b, e1, u, o, nw, nio, nl⟩
    · exact .inl ⟨r.sim (sim_unlock e), m⟩
    · refine .inr ⟨b, e1, u, o.sim (sim_unlock e), nw.imp (fun z => ?_) id, nio, fun k2 => ?_⟩
      · by_cases c : b = a
        · subst c; rw [put_same] at z; cases z
        · rwa [put_ne c] at z
      · by_cases c : b = a
        · subst c; rw [put_same]; simp
        · rw [put_ne c]; exact nl k2
  · obtain ⟨e, s2⟩ := s.unlock h na; exact ⟨e, n.bk _ _ _ _ hn s2⟩
  · obtain ⟨e, s2⟩ := s.unlock h na; exact ⟨e, n.ct _ _ _ _ hn s2⟩
theorem lockS_ok {kk : Ik} {vs : List Vl} {ds : List D} (i : Inv κ env σ S U) (b : Bws S U vs ds) (n : ∀ d, d ∈ ds → ∀ a, d = .ref a → ¬ Ad κ env σ a) (no : NOk κ σ env S U fr N NW out) {Pq : Sto → En → Prop}
    (core : ∀ S2 NW2, Inv κ env σ S2 U → Bws S2 U vs ds → (kk = .nam → ∀ a kd, ds = [.ref a] → S2 a ≠ some (.dic kd)) → NOk κ σ env S2 U fr N NW2 out → Pq S2 NW2) : lockS kk ds S NW Pq := by
  unfold lockS
  split
  · rename_i _ a
    split
    · rename_i kd h
      refine core _ _ (i.lock h (n _ (by simp) a rfl)) (b.sim (sim_lock h)) (fun _ a' kd' e z => ?_) (no.locked h (n _ (by simp) a rfl))
      cases e; rw [put_same] at z; cases z
    · rename_i h
      exact core S NW i b (fun _ a' kd' e z => by cases e; exact h kd' z) no
  · rename_i h
    exact core S NW i b (fun e a' kd' e2 z => h a' e e2) no
theorem Stays.sst {S0 : Sto} {ds : List D} (h : Stays S0 ds κ env σ S) (s : SSt κ σ env S U σ' env' S' U') : Stays S0 ds κ env' σ' S' := fun a ha => by
  obtain ⟨h1, h2, h3⟩ := h a ha
  have e := s.fm.keep a h2 h3
  exact ⟨e.trans h1, by rw [e]; exact h2, fun z => (s.ad a z).elim h3 h2⟩
theorem pfor_ok {S0 : Sto} {ds : List D} {chk : Sto → Prop} (hc : ∀ S', (∀ a, .ref a ∈ ds → S' a = S0 a) → chk S') {body : Vl → Env → Nd → Option Rt} {wb : D → En → Sl → Sto → Prop}
    (hb : ∀ x dx env σ S U N NW, body x env N = some out → Inv κ env σ S U → Rp S U x dx → NOk κ σ env S U fr N NW out → wb dx NW σ S) :
    ∀ {items : List Vl} {u : List D} {env : Env} {σ : Sl} {S : Sto} {U : Addr → Prop} {N : Nd} {NW : En}, pfor body items env N = some out → Inv κ env σ S U → Rps S U items u → Stays S0 ds κ env σ S → NOk κ σ env S U fr N NW out → wpFor chk wb u NW σ S
  | [], _, env, σ, S, U, N, NW, h, i, .nil, st, no => by
    unfold pfor at h
    exact ⟨hc S fun a ha => (st a ha).1, no.nx _ _ _ _ h (.refl i)⟩
  | x :: xs, _, env, σ, S, U, N, NW, h, i, .cons (d := dx) (ds := us) rx rxs, st, no => by
    unfold pfor at h
    refine ⟨hc S fun a ha => (st a ha).1, hb x dx env σ S U _ _ h i rx ?_⟩
    have nxt : ∀ σ' env' S' U', pfor body xs env' N = some out → SSt κ σ env S U σ' env' S' U' → wpFor chk wb us NW σ' S' := fun σ' env' S' U' h1 s =>
      pfor_ok hc hb h1 s.inv (rxs.fm s.fm fun b hb => i.ad hb) (st.sst s) (no.on i s)
    exact ⟨nxt, no.rt, no.nx, nxt⟩
variable {P : Pr} {C : Cal} {Wc : Callee}
variable (P C Wc) in
def ISt (s : Sm) : Prop := ∀ (κ : List Kd) (env : Env) (N : Nd) (out : Rt) (σ : Sl) (S : Sto) (U : Addr → Prop) (NW : En) (fr : Bool), ps C P fr s κ env N = some out → Inv κ env σ S U → NOk κ σ env S U fr N NW out → wpS Wc P.G s NW σ S
variable (P C Wc) in
def IBk (b : List Sm) : Prop := ∀ (κ : List Kd) (env : Env) (N : Nd) (out : Rt) (σ : Sl) (S : Sto) (U : Addr → Prop) (NW : En) (fr : Bool), pk C P fr b κ env N = some out → Inv κ env σ S U → NOk κ σ env S U fr N NW out → wpB Wc P.G b NW σ S
theorem pk_ok : ∀ {b : List Sm}, (∀ s ∈ b, ISt P C Wc s) → IBk P C Wc b
  | [], _ => fun κ env N out σ S U NW fr h i no => by simp only [pk, wpB] at *; exact no.nx _ _ _ _ h (.refl i)
  | s :: b, ih => fun κ env N out σ S U NW fr h i no => by
    simp only [pk, wpB] at *
    refine ih s (List.mem_cons_self ..) κ env _ out σ S U _ fr h i ⟨fun σ' env' S' U' h1 s1 => ?_, no.rt, no.bk, no.ct⟩
    exact pk_ok (b := b) (fun s hs => ih s (List.mem_cons_of_mem _ hs)) κ env' N out σ' S' U' NW fr h1 s1.inv (no.on i s1)
theorem st_asg (ck : CalOk P C Wc) {t : Tg} {e : E} : ISt P C Wc (.asg t e) := fun κ env N out σ S U NW fr h i no => by
  have ihe := pe_ok ck e
  simp only [ps, wpS] at *
  cases t with
  | one j =>
    dsimp only at h
    cases hk : kat κ j with
    | shr =>
      rw [hk] at h
      refine ihe κ env _ out σ S U _ _ h i fun v env1 d S1 U1 h1 s1 r1 => ?_
      obtain ⟨U2, s2, r2⟩ := r1.shareS i s1
      exact no.nx _ _ _ _ h1 (s2.sst.trans i (SSt.shr s2.inv hk r2))
    | own =>
      rw [hk] at h
      obtain ⟨hf, h⟩ := cnd_some h
      refine ihe κ env _ out σ S U _ _ h i fun v env1 d S1 U1 h1 s1 r1 => ?_
      rcases r1 with ⟨r, m⟩ | r
      · exact no.nx _ _ _ _ h1 (SSt.ownI i s1 hk (m hf) r)
      · exact no.nx _ _ _ _ h1 (SSt.own i s1 hk r)
    | io => rw [hk] at h; cases h
    | bor => rw [hk] at h; cases h
  | tup is =>
    dsimp only at h
    obtain ⟨hok, h⟩ := cnd_some h
    refine ihe κ env _ out σ S U _ _ h i fun v env1 d S1 U1 h1 s1 r1 => ?_
    obtain ⟨U2, s2, r2⟩ := r1.shareS i s1
    obtain ⟨env2, σ2, g1, g2, g3⟩ := SSt.tgt s2.inv hok h1 r2
    exact g2 _ (no.nx _ _ _ _ g1 (s2.sst.trans i g3))
theorem st_set (ck : CalOk P C Wc) {o ix e : E} : ISt P C Wc (.set o ix e) := fun κ env N out σ S U NW fr h i no => by
  have ihe := pe_ok ck e
  have ihi := pe_ok ck ix
  simp only [ps, wpS] at *
  refine ihe κ env _ out σ S U _ _ h i fun v env1 d S1 U1 h1 s1 r1 => ?_
  obtain ⟨U2, s2, r2⟩ := r1.shareS i s1
  obtain ⟨j, x0, e1, hx0, ho, h2⟩ := chg_some h1
  obtain ⟨hm, h2⟩ := cnd_some h2
  subst e1
  simp only [wpE]
  obtain ⟨a, ha, ua, oa, nl0⟩ := ow_ref s2.inv ho hx0 hm
  refine ⟨.ref a, ha, ?_⟩
  have lt := Lt.bor ho
  refine pb_ok ihi h2 (lt.inv s2.inv) fun y κ1 env2 dy S2 U3 h3 l3 s3 b3 n3 => ?_
  have e := s3.mo.same j (by rw [kat_set ho, if_pos rfl]; rfl)
  rw [hx0] at e
  have s4 := lt.back s2.inv s3
  obtain ⟨a', h1', ua', oa', nl⟩ := ow_ref s4.inv ho e hm
  rw [ha] at h1'; cases h1'
  obtain ⟨x, hx, h4⟩ := ob_some h3
  have hx := join_some hx
  rw [e] at hx; cases hx
  obtain ⟨x', hx', h5⟩ := ob_some h4
  refine vSet_ok hx' oa' nl b3 (r2.step s2.inv s4) fun oo nlo own => ?_
  have s5 := Step.mut (x' := x') s4.inv nlo ho e ha (fun f g => own _ put_same f g)
  exact no.nx _ _ _ _ h5 ((s2.trans i (s4.trans s2.inv s5)).sst)
theorem st_aug (ck : CalOk P C Wc) {j : Nat} {o : Operator} {e : E} : ISt P C Wc (.aug j o e) := fun κ env N out σ S U NW fr h i no => by
  have ihe := pe_ok ck e
  simp only [ps, wpS] at *
  obtain ⟨hk, h⟩ := cnd_some h
  have hk : kat κ j = .shr := by simpa using hk
  obtain ⟨x, hx, h⟩ := ob_some h
  have hx := join_some hx
  obtain ⟨d, hd, r⟩ := i.rel j x hx
  rw [hk] at r
  refine ⟨d, hd, ihe κ env _ out σ S U _ _ h i fun y env1 dy S1 U1 h1 s1 r1 => ?_⟩
  obtain ⟨z, hz, h2⟩ := ob_some h1
  have key : pAug o d dy fun d' => ∃ t, z = .int t ∧ d' = .int t := by
    unfold vAug at hz
    split at hz
    · cases (Bw.int (.inl r)); cases r1.bw.int; cases hz; exact ⟨_, _, rfl, rfl, _, rfl, rfl⟩
    · cases (Bw.int (.inl r)); cases r1.bw.int; cases hz; exact ⟨_, _, rfl, rfl, _, rfl, rfl⟩
    · cases hz
  have mono : ∀ {T T' : D → Prop}, (∀ d, T d → T' d) → pAug o d dy T → pAug o d dy T' := fun {T T'} f h => by
    unfold pAug at h ⊢
    cases o <;> first | (obtain ⟨p, q, e1, e2, e3⟩ := h; exact ⟨p, q, e1, e2, f _ e3⟩) | exact h
  refine mono (fun d' ⟨t, e1, e2⟩ => ?_) key
  subst e1 e2
  exact no.nx _ _ _ _ h2 (s1.sst.trans i (SSt.shr s1.inv hk (.int t)))
theorem st_ex (ck : CalOk P C Wc) {e : E} : ISt P C Wc (.ex e) := fun κ env N out σ S U NW fr h i no => by
  have ihe := pe_ok ck e
  simp only [ps, wpS] at *
  exact ihe κ env _ out σ S U _ _ h i fun v env1 d S1 U1 h1 s1 r1 => no.nx _ _ _ _ h1 s1.sst
theorem st_ret (ck : CalOk P C Wc) {e : E} : ISt P C Wc (.ret e) := fun κ env N out σ S U NW fr h i no => by
  have ihe := pe_ok ck e
  simp only [ps, wpS] at *
  obtain ⟨hf, h⟩ := cnd_some h
  refine ihe κ env _ out σ S U _ _ h i fun v env1 d S1 U1 h1 s1 r1 => no.rt v d _ _ _ _ h1 s1.sst (r1.rt fun z => ?_)
  subst z
  simpa using hf
theorem st_retN : ISt P C Wc .retN := fun κ env N out σ S U NW fr h i no => by
  simp only [ps, wpS] at *
  exact no.rt .non .non _ _ _ _ h (.refl i) (.inl ⟨.non, fun _ => rfl⟩)
theorem st_ite (ck : CalOk P C Wc) {c : E} {p q : List Sm} (ihp : ∀ s ∈ p, ISt P C Wc s) (ihq : ∀ s ∈ q, ISt P C Wc s) : ISt P C Wc (.ite c p q) := fun κ env N out σ S U NW fr h i no => by
  have ihc := pe_ok ck c
  simp only [ps, wpS] at *
  refine tst_ok (k := fun t env => cnd t (pk C P fr p κ env N) (pk C P fr q κ env N)) ihc h i fun t env' S' U' h1 s1 => ?_
  cases t with
  | true => rw [if_pos rfl]; exact pk_ok ihp κ env' N out σ S' U' NW fr h1 s1.inv (no.on i s1.sst)
  | false => rw [if_neg Bool.false_ne_true]; exact pk_ok ihq κ env' N out σ S' U' NW fr h1 s1.inv (no.on i s1.sst)
theorem st_loop (ck : CalOk P C Wc) {t : Tg} {kk : Ik} {it : List E} {b : List Sm} (ihb : ∀ s ∈ b, ISt P C Wc s) : ISt P C Wc (.loop t kk it b) := fun κ env N out σ S U NW fr h i no => by
  simp only [ps, wpS] at *
  refine pbs_ok (fun e _ => pe_ok ck e) κ env _ out σ S U _ _ h i fun vs κ1 env1 ds S1 U1 h1 l1 s1 b1 n1 => ?_
  obtain ⟨items, hit, h2⟩ := ob_some h1
  obtain ⟨hok, h2⟩ := cnd_some h2
  have i1 := l1.inv s1.inv
  have no1 : NOk κ1 σ env1 S1 U1 fr N NW out := (no.on i s1.sst).lent l1 s1.inv
  refine lockS_ok i1 b1 n1 no1 fun S2 NW2 i2 b2 lk no2 => ?_
  refine vItems_ok hit b2 ?_ fun u chk ru hc => ?_
  · intro a kd e
    cases kk with
    | nam => exact lk rfl a kd e
    | val =>
      subst e
      cases b2 with
      | cons b bs =>
        cases bs
        intro z
        unfold vItems at hit
        rename_i v
        cases v <;> try (cases hit; done)
        all_goals first
          | (obtain ⟨_, e, _⟩ := b.tup; cases e; done)
          | (have e := b.scr; cases e; done)
          | (have e := b.str; cases e; done)
          | (obtain ⟨_, _, e, e1, _⟩ := b.lst; cases e; rw [z] at e1; cases e1; done)
    | rng =>
      subst e
      cases b2 with
      | cons b bs =>
        cases bs
        rename_i v
        cases v <;> try (cases hit; done)
        have e := b.int; cases e
    | zip =>
      subst e
      cases b2 with
      | cons b bs =>
        cases bs
        rename_i v
        cases v <;> cases hit
  · have al : ∀ {vs : List Vl} {ds : List D} {a : Addr}, Bws S2 U1 vs ds → .ref a ∈ ds → S2 a ≠ none := fun {vs ds a} b h => by
      induction b with
      | nil => cases h
      | cons b bs ih =>
        rcases List.mem_cons.mp h with e | e
        · subst e; exact Bw.alive i2.dom b
        · exact ih e
    refine pfor_ok (S0 := S2) (ds := ds) hc (fun x dx env' σ' S' U' N' NW' hb i' rx no' => ?_) h2 i2 ru (fun a ha => ⟨rfl, al b2 ha, n1 _ ha a rfl⟩) no2
    obtain ⟨env2, σ2, g1, g2, g3⟩ := SSt.tgt i' hok hb rx
    exact g2 _ (pk_ok ihb κ1 env2 N' out σ2 S' U' NW' fr g1 g3.inv (no'.on i' g3))
theorem st_whl (ck : CalOk P C Wc) {c : E} {b : List Sm} (ihb : ∀ s ∈ b, ISt P C Wc s) : ISt P C Wc (.whl c b) := fun κ env N out σ S U NW fr h i no => by
  have ihc := pe_ok ck c
  simp only [ps, wpS] at *
  refine ⟨fun m σ' S' => ∃ env' U', pwh (fun env k => pe C P c κ env fun x env => ob (vBool x) fun t => k t env) (fun env N => pk C P fr b κ env N) m env' N = some out ∧ SSt κ σ env S U σ' env' S' U', ⟨WF, env, U, h, .refl i⟩, ?_⟩
  rintro m σ1 S1 ⟨env1, U1, h1, s1⟩
  cases m with
  | zero => unfold pwh at h1; cases h1
  | succ m =>
    unfold pwh at h1
    refine tst_ok (k := fun t env => cnd t (pk C P fr b κ env { N with nx := fun env => pwh (fun env k => pe C P c κ env fun x env => ob (vBool x) fun t => k t env) (fun env N => pk C P fr b κ env N) m env N, ct := fun env => pwh (fun env k => pe C P c κ env fun x env => ob (vBool x) fun t => k t env) (fun env N => pk C P fr b κ env N) m env N, bk := N.nx }) (N.nx env)) ihc h1 s1.inv fun t env2 S2 U2 h2 s2 => ?_
    have s12 := s1.trans i s2.sst
    cases t with
    | false => rw [if_neg Bool.false_ne_true]; exact no.nx _ _ _ _ h2 s12
    | true =>
      rw [if_pos rfl]
      refine pk_ok ihb κ env2 _ out σ1 S2 U2 _ fr h2 s12.inv ⟨fun σ' env' S' U' h3 s3 => ⟨m, Nat.lt_succ_self m, env', U', h3, s12.trans i s3⟩, fun v d σ' env' S' U' h3 s3 r => no.rt v d _ _ _ _ h3 (s12.trans i s3) (r.back s12), fun σ' env' S' U' h3 s3 => no.nx _ _ _ _ h3 (s12.trans i s3), fun σ' env' S' U' h3 s3 => ⟨m, Nat.lt_succ_self m, env', U', h3, s12.trans i s3⟩⟩
theorem ps_ok (ck : CalOk P C Wc) : ∀ s : Sm, ISt P C Wc s
  | .asg t e => st_asg ck
  | .set o i e => st_set ck
  | .aug i o e => st_aug ck
  | .ex e => st_ex ck
  | .ret e => st_ret ck
  | .retN => st_retN
  | .ite c a b => st_ite ck (fun s hs => ps_ok ck s) fun s hs => ps_ok ck s
  | .loop t k it b => st_loop ck fun s hs => ps_ok ck s
  | .whl c b => st_whl ck fun s hs => ps_ok ck s
  | .brk => fun κ env N out σ S U NW fr h i no => by simp only [ps, wpS] at *; exact no.bk _ _ _ _ h (.refl i)
  | .cnt => fun κ env N out σ S U NW fr h i no => by simp only [ps, wpS] at *; exact no.ct _ _ _ _ h (.refl i)
  | .pass => fun κ env N out σ S U NW fr h i no => by simp only [ps, wpS] at *; exact no.nx _ _ _ _ h (.refl i)
  | .raise x es => fun κ env N out σ S U NW fr h i no => by simp only [ps] at h; cases h
termination_by s => sizeOf s
decreasing_by all_goals simp_wf <;> first | omega | (have := List.sizeOf_lt_of_mem hs; omega)
end
/-! ## calls -/
theorem pcall_ok {P : Pr} (wf : Wf P) : ∀ n : Nat, CalOk P (pcall P n) (W P.F P.G n)
  | 0 => ⟨fun f vs r outs h => by unfold pcall at h; cases h⟩
  | n + 1 => by
    have ck := pcall_ok wf n
    refine ⟨fun f vs r outs h ds S U X Q dom hl hrel hdis K => ?_⟩
    unfold pcall at h
    obtain ⟨fn, hf, h⟩ := ob_some h
    obtain ⟨hps, h⟩ := gd_some h
    refine ⟨fn, hf, by rw [← hl]; exact hps, ?_⟩
    have gv : ∀ {i : Nat} {v : Vl}, (startV fn.n vs)[i]? = some (some v) → vs[i]? = some v := fun {i v} hv => by
      unfold startV at hv
      by_cases hi : i < vs.length
      · rw [List.getElem?_append_left (by simpa using hi), List.getElem?_map] at hv
        cases e : vs[i]? with
        | none => rw [e] at hv; cases hv
        | some w => rw [e] at hv; cases hv; rfl
      · rw [List.getElem?_append_right (by simpa using hi), List.getElem?_replicate] at hv
        split at hv <;> cases hv
    have gd' : ∀ {i : Nat} {d : D}, ds[i]? = some d → (startD fn.n ds)[i]? = some (some d) := fun {i d} hd => by
      unfold startD
      rw [List.getElem?_append_left (by simpa using (List.getElem?_eq_some_iff.mp hd).1), List.getElem?_map, hd]; rfl
    have gd2 : ∀ {i : Nat} {d : D}, (startD fn.n ds)[i]? = some (some d) → ds[i]? = some d := fun {i d} hv => by
      unfold startD at hv
      by_cases hi : i < ds.length
      · rw [List.getElem?_append_left (by simpa using hi), List.getElem?_map] at hv
        cases e : ds[i]? with
        | none => rw [e] at hv; cases hv
        | some w => rw [e] at hv; cases hv; rfl
      · rw [List.getElem?_append_right (by simpa using hi), List.getElem?_replicate] at hv
        split at hv <;> cases hv
    have vd : ∀ {i : Nat} {v : Vl}, vs[i]? = some v → ∃ d, ds[i]? = some d := fun {i v} hv => ⟨ds[i]'(by rw [← hl]; exact (List.getElem?_eq_some_iff.mp hv).1), List.getElem?_eq_getElem _⟩
    have inv : Inv (P.K f) (startV fn.n vs) (startD fn.n ds) S U := by
      refine ⟨by unfold startV startD; simp [hl], dom, fun i v hv => ?_, fun i j v w h1 h2 h3 h4 h5 a h6 h7 => ?_, fun i j v a h1 h2 h3 h4 h5 h6 => ?_, fun j a h1 h2 => ?_⟩
      · obtain ⟨d, hd⟩ := vd (gv hv)
        exact ⟨d, gd' hd, hrel i v d (gv hv) hd⟩
      · exact hdis i j a h1 h2 h3 (gd2 h6) (gd2 h7)
      · exact hdis i j a h1 (by rw [h2]; decide) h3 (gd2 h5) (gd2 h6)
      · have hd := gd2 h2
        have hv : vs[j]? = some (vs[j]'(by rw [hl]; exact (List.getElem?_eq_some_iff.mp hd).1)) := List.getElem?_eq_getElem _
        have := hrel j _ _ hv hd
        exact Bw.alive dom this.bw
    have par : ∀ {a : Addr}, Ad (P.K f) (startV fn.n vs) (startD fn.n ds) a → ∃ i, kat (P.K f) i = .io ∧ ds[i]? = some (.ref a) := fun {a} ⟨i, v, g1, g2, g3⟩ => by
      refine ⟨i, ?_, gd2 g3⟩
      cases hk : kat (P.K f) i with
      | io => rfl
      | own =>
        have h1 := wf.par f fn hf i hk
        have h2 := (List.getElem?_eq_some_iff.mp (gv g2)).1
        omega
      | shr => rw [hk] at g1; cases g1
      | bor => rw [hk] at g1; cases g1
    -- what is left behind
    have fin : ∀ (v : Vl) (d : D) (σ' : Sl) (env' : Env) (S' : Sto) (U' : Addr → Prop), some (v, env'.take fn.ps) = some (r, outs) → SSt (P.K f) (startD fn.n ds) (startV fn.n vs) S U σ' env' S' U' →
        ResR (P.K f) (P.R f) σ' S (Ad (P.K f) (startV fn.n vs) (startD fn.n ds)) S' U' v d → Q d S' := fun v d σ' env' S' U' he s rr => by
      cases he
      have f2 : Fm (fun a => ∃ i, (kat (P.K f) i).ow = true ∧ ds[i]? = some (.ref a)) S U S' U' := s.fm.wide fun b hb => by
        obtain ⟨i, g1, g2⟩ := par hb
        exact ⟨i, by rw [g1]; rfl, g2⟩
      refine K d S' U' s.inv.dom f2 (fun i w dd h1 h2 h3 => ?_) ?_
      · have hi : i < fn.ps := by rw [← hps, hl]; exact (List.getElem?_eq_some_iff.mp h3).1
        rw [List.getElem?_take, if_pos hi] at h2
        have hio : kat (P.K f) i = .io := by
          cases hk : kat (P.K f) i with
          | io => rfl
          | own => exact absurd (wf.par f fn hf i hk) (by omega)
          | shr => rw [hk] at h1; cases h1
          | bor => rw [hk] at h1; cases h1
        obtain ⟨d', g1, g2⟩ := s.inv.rel i w h2
        rw [s.fix i (.inr hio), gd' h3] at g1
        cases g1
        rwa [own_of h1] at g2
      · rcases rr with ⟨r1, m⟩ | ⟨a, e, u, o, nw, nio, nl⟩
        · exact .inl ⟨r1, m⟩
        · refine .inr ⟨a, e, u, o, ?_, nl⟩
          rcases nw with z | z
          · exact z
          · exfalso
            obtain ⟨i, g1, g2⟩ := par z
            exact nio i g1 (by rw [s.fix i (.inr g1)]; exact gd' g2)
    refine pk_ok (fun s _ => ps_ok ck s) (P.K f) _ _ (r, outs) (startD fn.n ds) S U _ (P.R f) h inv ⟨fun σ' env' S' U' h1 s1 => ?_, fun v d σ' env' S' U' h1 s1 rr => ?_, fun σ' env' S' U' h1 s1 => ?_, fun σ' env' S' U' h1 s1 => ?_⟩
    · exact fin .non .non σ' env' S' U' h1 s1 (.inl ⟨.non, fun _ => rfl⟩)
    · exact fin v d σ' env' S' U' h1 s1 rr
    · cases h1
    · cases h1
/-- THE END on values: what the evaluator says of law(script) -/
theorem law_of {P : Pr} (wf : Wf P) {n : Nat} {f : Str} {ns : List Int} {outs : List (Option Vl)} (hk : kat (P.K f) 0 = .shr) (h : pcall P n f [.scr ns] = some (.bl true, outs)) : W P.F P.G n f [.scr ns] (fun _ => none) (fun _ _ _ => False) (fun d _ => d = .bl true) := by
  refine (pcall_ok wf n).run f [.scr ns] (.bl true) outs h [.scr ns] (fun _ => none) (fun _ => False) _ _ (fun _ z => z.elim) rfl (fun i v d h1 h2 => ?_) (fun i j a h1 h2 h3 h4 => ?_) fun d S' U' _ _ _ r => ?_
  · cases i with
    | zero => cases h1; cases h2; rw [hk]; exact .scr ns
    | succ i => simp at h1
  · cases i with
    | zero => cases h4
    | succ i => simp at h4
  · rcases r with ⟨r, _⟩ | ⟨a, _, _, o, _⟩
    · cases r; rfl
    · cases o
end Mp

namespace Mp
open PySem
/-! ## reasoning on values -/
theorem ob_is {α β : Type} {x : Option α} {a : α} {f : α → Option β} (h : x = some a) : ob x f = f a := by rw [h]; rfl
theorem pd_true {p : Prop} (h : p) : Classical.propDecidable p = .isTrue h := by
  cases e : Classical.propDecidable p with
  | isTrue _ => rfl
  | isFalse n => exact absurd h n
theorem gd_is {α : Type} {p : Prop} {x : Option α} (h : p) : gd p x = x := gd_pos h
theorem pcall_eq {P : Pr} {n : Nat} {f : Str} {fn : Fn} {vs : List Vl} {κ : List Kd} {fr : Bool} (hF : P.F f = some fn) (hK : P.K f = κ) (hR : P.R f = fr) (hl : vs.length = fn.ps) :
    pcall P (n + 1) f vs = pk (pcall P n) P fr fn.body κ (startV fn.n vs) { nx := fun env => some (.non, env.take fn.ps), rt := fun v env => some (v, env.take fn.ps) } := by
  subst hK hR
  rw [pcall]
  show ob (P.F f) _ = _
  rw [hF]
  show gd (vs.length = fn.ps) _ = _
  rw [gd_pos hl]
/-- it comes to an end, of which Q holds -/
def Ev (x : Option Rt) (Q : Rt → Prop) : Prop := ∃ r, x = some r ∧ Q r
theorem Ev.eq {x : Option Rt} {r : Rt} (h : Ev x (· = r)) : x = some r := by obtain ⟨_, e, rfl⟩ := h; exact e
theorem Ev.mk {r : Rt} {Q : Rt → Prop} (h : Q r) : Ev (some r) Q := ⟨r, rfl, h⟩
theorem startV_1 {n : Nat} {a : Vl} : startV n [a] = some a :: List.replicate (n - 1) none := rfl
theorem startV_2 {n : Nat} {a b : Vl} : startV n [a, b] = some a :: some b :: List.replicate (n - 2) none := rfl
theorem startV_3 {n : Nat} {a b c : Vl} : startV n [a, b, c] = some a :: some b :: some c :: List.replicate (n - 3) none := rfl
theorem startV_4 {n : Nat} {a b c d : Vl} : startV n [a, b, c, d] = some a :: some b :: some c :: some d :: List.replicate (n - 4) none := rfl
theorem startV_5 {n : Nat} {a b c d e : Vl} : startV n [a, b, c, d, e] = some a :: some b :: some c :: some d :: some e :: List.replicate (n - 5) none := rfl
theorem startV_6 {n : Nat} {a b c d e f : Vl} : startV n [a, b, c, d, e, f] = some a :: some b :: some c :: some d :: some e :: some f :: List.replicate (n - 6) none := rfl
theorem startV_7 {n : Nat} {a b c d e f g : Vl} : startV n [a, b, c, d, e, f, g] = some a :: some b :: some c :: some d :: some e :: some f :: some g :: List.replicate (n - 7) none := rfl
theorem lvl {k n : Nat} (h : k + 1 ≤ n) : ∃ m, n = m + 1 ∧ k ≤ m := ⟨n - 1, by omega, by omega⟩
/-! ### the kinds are right: by the tables -/
theorem look_mem {α β : Type} [DecidableEq α] : ∀ {l : List (α × β)} {a : α} {b : β}, l.lookup a = some b → (a, b) ∈ l
  | [], _, _, h => by cases h
  | (c, d) :: r, a, b, h => by
    rw [List.lookup_cons] at h
    by_cases e : a = c
    · subst e; simp only [beq_self_eq_true] at h; cases h; exact List.mem_cons_self ..
    · rw [beq_eq_false_iff_ne.mpr e] at h; exact List.mem_cons_of_mem _ (look_mem h)
def kindsOk (ps : Nat) (κ : List Kd) : Bool := (κ.take ps).all (fun k => decide (k ≠ .own)) && (κ.drop ps).all fun k => decide (k ≠ .io)
theorem kat_mem {κ : List Kd} {i : Nat} {k : Kd} (h : kat κ i = k) (n : k ≠ .shr) : κ[i]? = some k := by
  unfold kat at h
  cases e : κ[i]? with
  | none => rw [e] at h; exact absurd h.symm n
  | some x => rw [e] at h; exact congrArg some h
theorem wf_of {P : Pr} {tF : List (Str × Fn)} (hF : P.F = fun x => tF.lookup x) (h : ∀ p ∈ tF, kindsOk p.2.ps (P.K p.1) = true) : Wf P := by
  have key : ∀ f fn, P.F f = some fn → kindsOk fn.ps (P.K f) = true := fun f fn e => by
    rw [hF] at e
    exact h (f, fn) (look_mem e)
  refine ⟨fun f fn e i k => ?_, fun f fn e i k => ?_⟩
  · have z := key f fn e
    unfold kindsOk at z
    rw [Bool.and_eq_true] at z
    refine Nat.not_lt.mp fun lt => ?_
    have m := List.all_eq_true.mp z.1 .own (List.mem_iff_getElem?.mpr ⟨i, by rw [List.getElem?_take_of_lt lt]; exact kat_mem k (by decide)⟩)
    simp at m
  · have z := key f fn e
    unfold kindsOk at z
    rw [Bool.and_eq_true] at z
    refine Nat.not_le.mp fun le => ?_
    have m := List.all_eq_true.mp z.2 .io (List.mem_iff_getElem?.mpr ⟨i - fn.ps, by rw [List.getElem?_drop, show fn.ps + (i - fn.ps) = i by omega]; exact kat_mem k (by decide)⟩)
    simp at m
/-! ### operators, guarded -/
theorem atI_n {α : Type} {u : List α} (n : Nat) : L2.atI u (n : Int) = u[n]? := by
  unfold L2.atI L2.ixN
  by_cases h : n < u.length
  · rw [if_pos (by omega), if_pos (by omega)]; simp
  · rw [if_pos (by omega), if_neg (by omega)]; simp; omega
theorem atI_of {α : Type} {u : List α} {i : Int} (h : 0 ≤ i) : L2.atI u i = u[i.toNat]? := by
  have := atI_n (u := u) i.toNat
  rwa [Int.toNat_of_nonneg h] at this
theorem v_mod {i j : Int} (h : 0 < j) : vBin .Mod (.int i) (.int j) = some (.int (i % j)) := gd_pos h
theorem v_divc {i j : Int} (h : 0 < j ∧ j < 2 ^ 64) : vBin .FloorDiv (.int i) (.int j) = some (.int (i / j)) := gd_pos ⟨h.1, Nat.lt_trans (PySem.Flt.log2_lt_of (n := j.natAbs) (k := 65) (by decide) (by omega)) (by decide)⟩
theorem v_mulr {i j : Int} (h : -(2 ^ 64) < j ∧ j < 2 ^ 64) : vBin .Mult (.int i) (.int j) = some (.int (i * j)) := gd_pos (.inr (.inr h))
theorem v_mull {i j : Int} (h : -(2 ^ 64) < i ∧ i < 2 ^ 64) : vBin .Mult (.int i) (.int j) = some (.int (i * j)) := gd_pos (.inr (.inl h))
theorem v_adds {u v : Str} (h : u.length + v.length ≤ sizeLine) : vBin .Add (.str u) (.str v) = some (.str (u ++ v)) := gd_pos h
theorem v_addt {u v : List Vl} (h : u.length + v.length ≤ sizeLine) : vBin .Add (.tup u) (.tup v) = some (.tup (u ++ v)) := gd_pos h
theorem v_addl {u v : List Vl} (h : u.length + v.length ≤ sizeLine) : vBin .Add (.lst u) (.lst v) = some (.lst (u ++ v)) := gd_pos h
theorem v_rng {j : Int} (h : small j) : vItems .rng [.int j] = some (rgVl 0 j) := gd_pos h
theorem v_rng2 {i j : Int} (h : small i ∧ small j) : vItems .rng [.int i, .int j] = some (rgVl i j) := gd_pos h
theorem v_app {u : List Vl} {y : Vl} (h : u.length < sizeLine) : vMth .append (.lst u) [y] = some (.non, .lst (u ++ [y])) := gd_pos h
theorem v_ext {u v : List Vl} (h : u.length + v.length ≤ sizeLine) : vMth .extend (.lst u) [.lst v] = some (.non, .lst (u ++ v)) := gd_pos h
theorem v_lrg {j : Int} (h : 0 ≤ j ∧ j ≤ 1000) : vRg [.int j] = some (0, j) := by
  have : sizeLine = 16777216 := by decide
  exact gd_pos ⟨⟨⟨by decide, by decide⟩, by unfold small; omega⟩, by omega⟩
theorem v_ixt {u : List Vl} {k : Int} {x : Vl} (h0 : 0 ≤ k) (h : u[k.toNat]? = some x) : vIx (.tup u) (.int k) = some x := by show L2.atI u k = _; rw [atI_of h0]; exact h
theorem v_ixl {u : List Vl} {k : Int} {x : Vl} (h0 : 0 ≤ k) (h : u[k.toNat]? = some x) : vIx (.lst u) (.int k) = some x := by show L2.atI u k = _; rw [atI_of h0]; exact h
theorem ixN_of {n : Nat} {i : Int} (h : 0 ≤ i) (h' : i < n) : L2.ixN n i = some i.toNat := by unfold L2.ixN; rw [if_pos h, if_pos h']
theorem sIx_some {n : Nat} {d : Nat} {i : Int} (h : 0 ≤ i) : HT.sIx n d (some i) = min i.toNat n := by
  have := HT.sIx_nat n d i.toNat
  rwa [Int.toNat_of_nonneg h] at this
theorem v_sls {z : Str} {i j : Option Int} (h : z.length ≤ sizeLine) : vSl (.str z) i j = some (.str (L2.cutS z i j)) := gd_pos h
theorem v_ixs {z : Str} {k : Int} {c : Nat} (hz : z.length ≤ sizeLine) (h : L2.atI z.cps.toList k = some c) : vIx (.str z) (.int k) = some (.str ⟨#[c]⟩) := by show gd _ _ = _; rw [gd_pos hz, h]; rfl
theorem d_int {a b : Int} : decide ((Vl.int a).toV = (Vl.int b).toV) = decide (a = b) := by
  rw [Bool.eq_iff_iff, decide_eq_true_eq, decide_eq_true_eq]
  exact ⟨fun h => by injection h, fun h => by rw [h]⟩
theorem d_str {a b : Str} : decide ((Vl.str a).toV = (Vl.str b).toV) = decide (a = b) := by
  rw [Bool.eq_iff_iff, decide_eq_true_eq, decide_eq_true_eq]
  exact ⟨fun h => by injection h, fun h => by rw [h]⟩
theorem d_bl {a b : Bool} : decide ((Vl.bl a).toV = (Vl.bl b).toV) = decide (a = b) := by
  rw [Bool.eq_iff_iff, decide_eq_true_eq, decide_eq_true_eq]
  exact ⟨fun h => by injection h, fun h => by rw [h]⟩
theorem d_self {α : Type} [DecidableEq α] {a : α} : decide (a = a) = true := decide_eq_true rfl
theorem fresh_call {R : Str → Bool} {κ : List Kd} {f : Str} {es : List E} : fresh R κ (.call f es) = R f := rfl
theorem vc_eq {x y : Vl} : vCmp .Eq x y = vEq x y := rfl
theorem vc_ne {x y : Vl} {b : Bool} (h : vEq x y = some b) : vCmp .NotEq x y = some (!b) := by show (vEq x y).map _ = _; rw [h]; rfl
theorem vc_in {x y : Vl} : vCmp .In x y = vIn x y := rfl
theorem vc_nin {x y : Vl} {b : Bool} (h : vIn x y = some b) : vCmp .NotIn x y = some (!b) := by show (vIn x y).map _ = _; rw [h]; rfl
theorem cutD_from {α : Type} {u : List α} {i : Int} (h : 0 ≤ i) : cutD u (some i) none = u.drop i.toNat := by
  unfold cutD
  rw [sIx_some h]
  show (u.drop (min i.toNat u.length)).take (u.length - min i.toNat u.length) = _
  have e : u.drop (min i.toNat u.length) = u.drop i.toNat := by
    by_cases hl : i.toNat ≤ u.length
    · rw [Nat.min_eq_left hl]
    · rw [Nat.min_eq_right (by omega), List.drop_eq_nil_of_le (Nat.le_refl _), List.drop_eq_nil_of_le (by omega)]
  rw [e, List.take_of_length_le]
  rw [List.length_drop]; omega
theorem cutD_to {α : Type} {u : List α} {i : Int} (h : 0 ≤ i) : cutD u none (some i) = u.take i.toNat := by
  unfold cutD
  rw [sIx_some h]
  show (u.drop 0).take (min i.toNat u.length - 0) = _
  rw [List.drop_zero, Nat.sub_zero]
  by_cases hl : i.toNat ≤ u.length
  · rw [Nat.min_eq_left hl]
  · rw [Nat.min_eq_right (by omega), List.take_of_length_le (Nat.le_refl _), List.take_of_length_le (by omega)]
/-! ### comprehensions, loops -/
inductive All2 {α β : Type} (M : α → β → Prop) : List α → List β → Prop where
  | nil : All2 M [] []
  | cons {x : α} {y : β} {xs : List α} {ys : List β} : M x y → All2 M xs ys → All2 M (x :: xs) (y :: ys)
section
variable {σ : Type}
theorem plc_map {el : Vl → Env → (Option Vl → Env → Option Rt) → Option Rt} {env : Env} (f : Vl → Vl) : ∀ {items acc : List Vl} {K : List Vl → Env → Option Rt},
    (∀ x ∈ items, ∀ K, el x env K = K (some (f x)) env) → acc.length + items.length ≤ sizeLine → plc el items acc env K = K (acc ++ items.map f) env
  | [], acc, K, _, _ => by rw [plc, List.map_nil, List.append_nil]
  | x :: xs, acc, K, h, hl => by
    rw [List.length_cons] at hl
    rw [plc, h x (List.mem_cons_self ..)]
    dsimp only
    rw [gd_pos (by omega), plc_map f (fun y hy => h y (List.mem_cons_of_mem _ hy)) (by rw [List.length_append, List.length_singleton]; omega), List.map_cons, List.append_assoc]
    rfl
theorem plc_fm {el : Vl → Env → (Option Vl → Env → Option Rt) → Option Rt} {env : Env} (f : Vl → Option Vl) : ∀ {items acc : List Vl} {K : List Vl → Env → Option Rt},
    (∀ x ∈ items, ∀ K, el x env K = K (f x) env) → acc.length + items.length ≤ sizeLine → plc el items acc env K = K (acc ++ items.filterMap f) env
  | [], acc, K, _, _ => by rw [plc, List.filterMap_nil, List.append_nil]
  | x :: xs, acc, K, h, hl => by
    rw [List.length_cons] at hl
    rw [plc, h x (List.mem_cons_self ..)]
    cases e : f x with
    | none =>
      dsimp only
      rw [plc_fm f (fun y hy => h y (List.mem_cons_of_mem _ hy)) (by omega), List.filterMap_cons_none e]
    | some y =>
      dsimp only
      rw [gd_pos (by omega), plc_fm f (fun y hy => h y (List.mem_cons_of_mem _ hy)) (by rw [List.length_append, List.length_singleton]; omega), List.filterMap_cons_some e, List.append_assoc]
      rfl
/-- one that changes something: what holds of the state, of what was made -/
theorem plc_inv {el : Vl → Env → (Option Vl → Env → Option Rt) → Option Rt} (E : σ → Env) (I : σ → Prop) (M : List Vl → Prop) : ∀ {items acc : List Vl} {K : List Vl → Env → Option Rt} {s : σ},
    I s → M acc → (∀ x ∈ items, ∀ s, I s → ∀ acc, M acc → ∃ s' r, I s' ∧ (∀ K, el x (E s) K = K r (E s')) ∧ match r with | some y => M (acc ++ [y]) | none => M acc) → acc.length + items.length ≤ sizeLine →
    ∃ s' out, I s' ∧ M out ∧ out.length ≤ acc.length + items.length ∧ plc el items acc (E s) K = K out (E s')
  | [], acc, K, s, i, m, _, _ => ⟨s, acc, i, m, Nat.le_add_right .., by rw [plc]⟩
  | x :: xs, acc, K, s, i, m, h, hl => by
    rw [List.length_cons] at hl
    obtain ⟨s1, r, i1, e, m1⟩ := h x (List.mem_cons_self ..) s i acc m
    rw [plc, e]
    cases r with
    | none =>
      obtain ⟨s2, out, i2, m2, l2, e2⟩ := plc_inv E I M (K := K) i1 m1 (fun y hy => h y (List.mem_cons_of_mem _ hy)) (by omega)
      exact ⟨s2, out, i2, m2, by rw [List.length_cons]; omega, e2⟩
    | some y =>
      obtain ⟨s2, out, i2, m2, l2, e2⟩ := plc_inv E I M (K := K) (acc := acc ++ [y]) i1 m1 (fun y hy => h y (List.mem_cons_of_mem _ hy)) (by rw [List.length_append, List.length_singleton]; omega)
      refine ⟨s2, out, i2, m2, by rw [List.length_append, List.length_singleton] at l2; rw [List.length_cons]; omega, ?_⟩
      dsimp only
      rw [gd_pos (by omega), e2]
/-- each item gives one thing, which stands to it as told -/
theorem plc_all {el : Vl → Env → (Option Vl → Env → Option Rt) → Option Rt} (E : σ → Env) (I : σ → Prop) (M : Vl → Vl → Prop) : ∀ {items acc : List Vl} {K : List Vl → Env → Option Rt} {s : σ},
    I s → (∀ x ∈ items, ∀ s, I s → ∃ s' y, I s' ∧ (∀ K, el x (E s) K = K (some y) (E s')) ∧ M x y) → acc.length + items.length ≤ sizeLine →
    ∃ s' out, I s' ∧ All2 M items out ∧ plc el items acc (E s) K = K (acc ++ out) (E s')
  | [], acc, K, s, i, _, _ => ⟨s, [], i, .nil, by rw [plc, List.append_nil]⟩
  | x :: xs, acc, K, s, i, h, hl => by
    rw [List.length_cons] at hl
    obtain ⟨s1, y, i1, e, m1⟩ := h x (List.mem_cons_self ..) s i
    obtain ⟨s2, out, i2, f2, e2⟩ := plc_all E I M (K := K) (acc := acc ++ [y]) i1 (fun y hy => h y (List.mem_cons_of_mem _ hy)) (by rw [List.length_append, List.length_singleton]; omega)
    refine ⟨s2, y :: out, i2, .cons m1 f2, ?_⟩
    rw [plc, e]
    dsimp only
    rw [gd_pos (by omega), e2, List.append_assoc]
    rfl
/-- a loop that folds -/
theorem pfor_fold {body : Vl → Env → Nd → Option Rt} (E : σ → Env) (step : σ → Vl → σ) : ∀ {items : List Vl} {s : σ} {N : Nd},
    (∀ x ∈ items, ∀ s N, body x (E s) N = N.nx (E (step s x))) → pfor body items (E s) N = N.nx (E (items.foldl step s))
  | [], s, N, _ => by rw [pfor]; rfl
  | x :: xs, s, N, h => by
    rw [pfor, h x (List.mem_cons_self ..)]
    dsimp only
    rw [pfor_fold E step (fun y hy => h y (List.mem_cons_of_mem _ hy))]
    rfl
/-- a loop that keeps something, what is done so far in sight -/
theorem pfor_invp {body : Vl → Env → Nd → Option Rt} (E : σ → Env) (I : List Vl → σ → Prop) : ∀ {items pre : List Vl} {s : σ} {N : Nd},
    I pre s → (∀ pre x s, I pre s → x ∈ items → ∃ s', I (pre ++ [x]) s' ∧ ∀ N, body x (E s) N = N.nx (E s')) → ∃ s', I (pre ++ items) s' ∧ pfor body items (E s) N = N.nx (E s')
  | [], pre, s, N, i, _ => ⟨s, by rw [List.append_nil]; exact i, by rw [pfor]⟩
  | x :: xs, pre, s, N, i, h => by
    obtain ⟨s1, i1, e1⟩ := h pre x s i (List.mem_cons_self ..)
    obtain ⟨s2, i2, e2⟩ := pfor_invp E I (N := N) i1 (fun pre y s i hy => h pre y s i (List.mem_cons_of_mem _ hy))
    refine ⟨s2, by rw [List.append_assoc] at i2; exact i2, ?_⟩
    rw [pfor, e1]
    exact e2
theorem pfor_inv {body : Vl → Env → Nd → Option Rt} (E : σ → Env) (I : σ → Prop) {items : List Vl} {s : σ} {N : Nd}
    (i : I s) (h : ∀ x s, I s → x ∈ items → ∃ s', I s' ∧ ∀ N, body x (E s) N = N.nx (E s')) : ∃ s', I s' ∧ pfor body items (E s) N = N.nx (E s') :=
  pfor_invp E (fun _ => I) (pre := []) i fun _ x s i hx => h x s i hx
/-- a while: by a measure -/
theorem pwh_meas {test : Env → (Bool → Env → Option Rt) → Option Rt} {body : Env → Nd → Option Rt} (E : σ → Env) (I : σ → Prop) (m : σ → Nat) : ∀ {n : Nat} {s : σ} {N : Nd},
    I s → m s < n → (∀ s, I s → (∃ s', I s' ∧ m s' < m s ∧ (∀ k, test (E s) k = k true (E s)) ∧ ∀ N, body (E s) N = N.nx (E s')) ∨ (∀ k, test (E s) k = k false (E s))) →
    ∃ s', I s' ∧ (∀ k, test (E s') k = k false (E s')) ∧ pwh test body n (E s) N = N.nx (E s')
  | 0, _, _, _, h, _ => absurd h (Nat.not_lt_zero _)
  | n + 1, s, N, i, hm, h => by
    rcases h s i with ⟨s1, i1, l1, t1, b1⟩ | t1
    · obtain ⟨s2, i2, t2, e2⟩ := pwh_meas E I m (n := n) (N := N) i1 (by omega) h
      refine ⟨s2, i2, t2, ?_⟩
      rw [pwh, t1]
      dsimp only [cnd]
      rw [b1]
      exact e2
    · refine ⟨s, i, t1, ?_⟩
      rw [pwh, t1]
      rfl
/-- a loop: what is kept, what is done -/
theorem ev_forp {body : Vl → Env → Nd → Option Rt} {items : List Vl} {env : Env} {N : Nd} {Q : Rt → Prop} (E : σ → Env) (I : List Vl → σ → Prop) (s : σ) (he : env = E s) (i : I [] s)
    (h : ∀ pre x post s, items = pre ++ x :: post → I pre s → ∀ K, (∀ s', I (pre ++ [x]) s' → Ev (K (E s')) Q) → Ev (body x (E s) { nx := K, rt := N.rt, bk := N.nx, ct := K }) Q)
    (q : ∀ s', I items s' → Ev (N.nx (E s')) Q) : Ev (pfor body items env N) Q := by
  subst he
  suffices g : ∀ (post pre : List Vl) (s : σ), items = pre ++ post → I pre s → Ev (pfor body post (E s) N) Q from g items [] s rfl i
  intro post
  induction post with
  | nil =>
    intro pre s e i
    rw [List.append_nil] at e
    subst e
    exact q s i
  | cons x post ih =>
    intro pre s e i
    exact h pre x post s e i _ fun s' i' => ih (pre ++ [x]) s' (by rw [e, List.append_assoc]; rfl) i'
theorem ev_for {body : Vl → Env → Nd → Option Rt} {items : List Vl} {env : Env} {N : Nd} {Q : Rt → Prop} (E : σ → Env) (I : σ → Prop) (s : σ) (he : env = E s) (i : I s)
    (h : ∀ x s, x ∈ items → I s → ∀ K, (∀ s', I s' → Ev (K (E s')) Q) → Ev (body x (E s) { nx := K, rt := N.rt, bk := N.nx, ct := K }) Q)
    (q : ∀ s', I s' → Ev (N.nx (E s')) Q) : Ev (pfor body items env N) Q :=
  ev_forp E (fun _ => I) s he i (fun pre x post s e i K hK => h x s (by rw [e]; simp) i K hK) q
/-- a comprehension: what was walked, what was made, the state -/
theorem ev_lc {el : Vl → Env → (Option Vl → Env → Option Rt) → Option Rt} {items : List Vl} {env : Env} {K0 : List Vl → Env → Option Rt} {Q : Rt → Prop} (E : σ → Env) (I : List Vl → List Vl → σ → Prop) (s : σ) (he : env = E s) (i : I [] [] s) (hl : items.length ≤ sizeLine)
    (h : ∀ pre x post acc s, items = pre ++ x :: post → I pre acc s → ∀ K, (∀ s', I (pre ++ [x]) acc s' → Ev (K none (E s')) Q) → (∀ y s', I (pre ++ [x]) (acc ++ [y]) s' → Ev (K (some y) (E s')) Q) → Ev (el x (E s) K) Q)
    (q : ∀ acc s', I items acc s' → acc.length ≤ items.length → Ev (K0 acc (E s')) Q) : Ev (plc el items [] env K0) Q := by
  subst he
  suffices g : ∀ (post pre acc : List Vl) (s : σ), items = pre ++ post → acc.length ≤ pre.length → I pre acc s → Ev (plc el post acc (E s) K0) Q from g items [] [] s rfl (Nat.le_refl _) i
  intro post
  induction post with
  | nil =>
    intro pre acc s e l i
    rw [List.append_nil] at e
    subst e
    exact q acc s i l
  | cons x post ih =>
    intro pre acc s e l i
    have lp : pre.length < items.length := by rw [e, List.length_append, List.length_cons]; omega
    have e' : items = (pre ++ [x]) ++ post := by rw [e, List.append_assoc]; rfl
    rw [plc]
    refine h pre x post acc s e i _ (fun s' i' => ?_) (fun y s' i' => ?_)
    · exact ih (pre ++ [x]) acc s' e' (by rw [List.length_append]; omega) i'
    · dsimp only
      rw [gd_pos (by omega)]
      exact ih (pre ++ [x]) (acc ++ [y]) s' e' (by rw [List.length_append, List.length_append, List.length_singleton, List.length_singleton]; omega) i'
/-- a comprehension that changes nothing -/
theorem ev_map {el : Vl → Env → (Option Vl → Env → Option Rt) → Option Rt} {items : List Vl} {env : Env} {K0 : List Vl → Env → Option Rt} {Q : Rt → Prop} (f : Vl → Vl) (hl : items.length ≤ sizeLine)
    (h : ∀ x ∈ items, ∀ K, el x env K = K (some (f x)) env) (q : Ev (K0 (items.map f) env) Q) : Ev (plc el items [] env K0) Q := by
  rw [plc_map f h (by rw [List.length_nil]; omega)]; exact q
theorem ev_fm {el : Vl → Env → (Option Vl → Env → Option Rt) → Option Rt} {items : List Vl} {env : Env} {K0 : List Vl → Env → Option Rt} {Q : Rt → Prop} (f : Vl → Option Vl) (hl : items.length ≤ sizeLine)
    (h : ∀ x ∈ items, ∀ K, el x env K = K (f x) env) (q : Ev (K0 (items.filterMap f) env) Q) : Ev (plc el items [] env K0) Q := by
  rw [plc_fm f h (by rw [List.length_nil]; omega)]; exact q
theorem ev_mapOf {α : Type} {el : Vl → Env → (Option Vl → Env → Option Rt) → Option Rt} {items : List Vl} {env : Env} {K0 : List Vl → Env → Option Rt} {Q : Rt → Prop} {xs : List α} (v g : α → Vl) (he : items = xs.map v) (hl : xs.length ≤ sizeLine)
    (h : ∀ a ∈ xs, ∀ K, el (v a) env K = K (some (g a)) env) (q : Ev (K0 (xs.map g) env) Q) : Ev (plc el items [] env K0) Q := by
  subst he
  suffices w : ∀ (xs : List α) (acc : List Vl), (∀ a ∈ xs, ∀ K, el (v a) env K = K (some (g a)) env) → acc.length + xs.length ≤ sizeLine → plc el (xs.map v) acc env K0 = K0 (acc ++ xs.map g) env by
    rw [w xs [] h (by rw [List.length_nil]; omega)]; exact q
  intro xs
  induction xs with
  | nil => intro acc _ _; rw [List.map_nil, plc, List.map_nil, List.append_nil]
  | cons x xs ih =>
    intro acc h hl
    rw [List.length_cons] at hl
    rw [List.map_cons, plc, h x (List.mem_cons_self ..)]
    dsimp only
    rw [gd_pos (by omega), ih _ (fun y hy => h y (List.mem_cons_of_mem _ hy)) (by rw [List.length_append, List.length_singleton]; omega), List.map_cons, List.append_assoc]
    rfl
/-- a while, by a measure -/
theorem ev_whl {test : Env → (Bool → Env → Option Rt) → Option Rt} {body : Env → Nd → Option Rt} {n : Nat} {env : Env} {N : Nd} {Q : Rt → Prop} (E : σ → Env) (I : σ → Prop) (m : σ → Nat) (s : σ) (he : env = E s) (i : I s) (hm : m s < n)
    (h : ∀ s, I s → ∀ K, (∀ s', I s' → m s' < m s → Ev (K (E s')) Q) → Ev (test (E s) fun b env => cnd b (body env { nx := K, rt := N.rt, bk := N.nx, ct := K }) (N.nx env)) Q) : Ev (pwh test body n env N) Q := by
  subst he
  induction n generalizing s with
  | zero => exact absurd hm (Nat.not_lt_zero _)
  | succ n ih => exact h s i _ fun s' i' l => ih s' i' (by omega)
/-- a comprehension that changes the first slot alone -/
theorem ev_lcp {el : Vl → Env → (Option Vl → Env → Option Rt) → Option Rt} {items : List Vl} {env : Env} {K0 : List Vl → Env → Option Rt} {Q : Rt → Prop} (I : List Vl → List Vl → Vl → Prop) (p : Vl) (he : env = env.set 0 (some p)) (i : I [] [] p) (hl : items.length ≤ sizeLine)
    (h : ∀ pre x post acc p, items = pre ++ x :: post → I pre acc p → ∀ K, (∀ p', I (pre ++ [x]) acc p' → Ev (K none (env.set 0 (some p'))) Q) → (∀ y p', I (pre ++ [x]) (acc ++ [y]) p' → Ev (K (some y) (env.set 0 (some p'))) Q) → Ev (el x (env.set 0 (some p)) K) Q)
    (q : ∀ acc p', I items acc p' → acc.length ≤ items.length → Ev (K0 acc (env.set 0 (some p'))) Q) : Ev (plc el items [] env K0) Q :=
  ev_lc (fun p => env.set 0 (some p)) I p he i hl h q
end
end Mp

namespace Mp
open PySem
theorem lm {α : Type} {p : α → Prop} {a : α} {l : List α} (h : p a) (t : ∀ x ∈ l, p x) : ∀ x ∈ a :: l, p x := List.forall_mem_cons.mpr ⟨h, t⟩
theorem ln {α : Type} {p : α → Prop} : ∀ x ∈ ([] : List α), p x := fun _ z => nomatch z
def fn_distinct : Fn := ⟨1, 3, [.asg (.one 1) (.lst []), .loop (.one 2) .nam [(.v 0)] [.ite (.cmp .NotIn (.v 2) (.v 1)) [.ex (.mth .append (.v 1) [(.v 2)])] []], .ret (.v 1)]⟩
def nm_distinct : List PySem.Str := [(PySem.Str.ofString "row"), (PySem.Str.ofString "found"), (PySem.Str.ofString "item")]
def fn_occurrences : Fn := ⟨1, 3, [.ite (.tru (.isi (.v 0) .int)) [.ret (.lst [(.v 0)])] [], .asg (.one 1) (.lst []), .loop (.one 2) .val [(.sl (.v 0) [(.int 1)] [])] [.ex (.mth .extend (.v 1) [(.call (PySem.Str.ofString "occurrences") [(.v 2)])])], .ret (.v 1)]⟩
def nm_occurrences : List PySem.Str := [(PySem.Str.ofString "term"), (PySem.Str.ofString "found"), (PySem.Str.ofString "part")]
def fn_substituted : Fn := ⟨2, 3, [.ite (.tru (.isi (.v 0) .int)) [.ret (.dget (.v 1) (.v 0) [(.v 0)])] [], .ret (.bin .Add (.tup [(.ix (.v 0) (.int 0))]) (.blt .tuple [(.lc [2] (.one 2) .val [(.sl (.v 0) [(.int 1)] [])] (.bl true) (.call (PySem.Str.ofString "substituted") [(.v 2), (.v 1)]))]))]⟩
def nm_substituted : List PySem.Str := [(PySem.Str.ofString "term"), (PySem.Str.ofString "substitution"), (PySem.Str.ofString "part")]
def fn_shifted : Fn := ⟨2, 3, [.ite (.tru (.isi (.v 0) .int)) [.ret (.bin .Add (.v 0) (.v 1))] [], .ret (.bin .Add (.tup [(.ix (.v 0) (.int 0))]) (.blt .tuple [(.lc [2] (.one 2) .val [(.sl (.v 0) [(.int 1)] [])] (.bl true) (.call (PySem.Str.ofString "shifted") [(.v 2), (.v 1)]))]))]⟩
def nm_shifted : List PySem.Str := [(PySem.Str.ofString "term"), (PySem.Str.ofString "n"), (PySem.Str.ofString "part")]
def fn_above : Fn := ⟨1, 1, [.ret (.bin .Add (.int 1) (.mxd true (.call (PySem.Str.ofString "occurrences") [(.v 0)]) (.neg (.int 1))))]⟩
def nm_above : List PySem.Str := [(PySem.Str.ofString "term")]
def fn_tidied : Fn := ⟨1, 5, [.asg (.one 1) (.lst []), .loop (.one 2) .nam [(.v 0)] [.ex (.mth .extend (.v 1) [(.call (PySem.Str.ofString "occurrences") [(.v 2)])])], .asg (.one 1) (.call (PySem.Str.ofString "distinct") [(.v 1)]), .asg (.one 3) (.dc [4] (.one 4) .rng [(.blt .len [(.v 1)])] (.bl true) (.ix (.v 1) (.v 4)) (.v 4)), .ret (.blt .tuple [(.lc [2] (.one 2) .nam [(.v 0)] (.bl true) (.call (PySem.Str.ofString "substituted") [(.v 2), (.v 3)]))])]⟩
def nm_tidied : List PySem.Str := [(PySem.Str.ofString "terms"), (PySem.Str.ofString "seen"), (PySem.Str.ofString "term"), (PySem.Str.ofString "names"), (PySem.Str.ofString "k")]
def fn_write_term : Fn := ⟨1, 2, [.ite (.tru (.isi (.v 0) .int)) [.ret (.fst [(.str (PySem.Str.ofString "x")), (.fmt (.v 0))])] [], .ite (.cmp .Eq (.blt .len [(.v 0)]) (.int 1)) [.ret (.ix (.v 0) (.int 0))] [], .ret (.bin .Add (.bin .Add (.bin .Add (.ix (.v 0) (.int 0)) (.str (PySem.Str.ofString "("))) (.join (.str (PySem.Str.ofString ",")) (.lc [1] (.one 1) .val [(.sl (.v 0) [(.int 1)] [])] (.bl true) (.call (PySem.Str.ofString "write_term") [(.v 1)])))) (.str (PySem.Str.ofString ")")))]⟩
def nm_write_term : List PySem.Str := [(PySem.Str.ofString "term"), (PySem.Str.ofString "part")]
def fn_resolved : Fn := ⟨2, 2, [.whl (.and (.tru (.isi (.v 0) .int)) (.cmp .In (.v 0) (.v 1))) [.asg (.one 0) (.ix (.v 1) (.v 0))], .ret (.v 0)]⟩
def nm_resolved : List PySem.Str := [(PySem.Str.ofString "term"), (PySem.Str.ofString "bound")]
def fn_occurs : Fn := ⟨3, 4, [.asg (.one 1) (.call (PySem.Str.ofString "resolved") [(.v 1), (.v 2)]), .ite (.tru (.isi (.v 1) .int)) [.ret (.cmp .Eq (.v 1) (.v 0))] [], .ret (.blt .any [(.lc [3] (.one 3) .val [(.sl (.v 1) [(.int 1)] [])] (.bl true) (.call (PySem.Str.ofString "occurs") [(.v 0), (.v 3), (.v 2)]))])]⟩
def nm_occurs : List PySem.Str := [(PySem.Str.ofString "number"), (PySem.Str.ofString "term"), (PySem.Str.ofString "bound"), (PySem.Str.ofString "part")]
def fn_settled : Fn := ⟨2, 3, [.asg (.one 0) (.call (PySem.Str.ofString "resolved") [(.v 0), (.v 1)]), .ite (.tru (.isi (.v 0) .int)) [.ret (.v 0)] [], .ret (.bin .Add (.tup [(.ix (.v 0) (.int 0))]) (.blt .tuple [(.lc [2] (.one 2) .val [(.sl (.v 0) [(.int 1)] [])] (.bl true) (.call (PySem.Str.ofString "settled") [(.v 2), (.v 1)]))]))]⟩
def nm_settled : List PySem.Str := [(PySem.Str.ofString "term"), (PySem.Str.ofString "bound"), (PySem.Str.ofString "part")]
def fn_unifier : Fn := ⟨1, 9, [.asg (.one 1) .dnew, .asg (.one 2) (.blt .list [(.v 0)]), .whl (.tru (.v 2)) [.asg (.tup [3, 4]) (.mth .pop (.v 2) []), .asg (.one 5) (.call (PySem.Str.ofString "resolved") [(.v 3), (.v 1)]), .asg (.one 6) (.call (PySem.Str.ofString "resolved") [(.v 4), (.v 1)]), .ite (.and (.tru (.isi (.v 5) .int)) (.tru (.isi (.v 6) .int))) [.ite (.cmp .NotEq (.v 5) (.v 6)) [.set (.v 1) (.blt .max [(.v 5), (.v 6)]) (.blt .min [(.v 5), (.v 6)])] []] [.ite (.or (.tru (.isi (.v 5) .int)) (.tru (.isi (.v 6) .int))) [.asg (.tup [7, 8]) (.ite (.tru (.isi (.v 5) .int)) (.tup [(.v 5), (.v 6)]) (.tup [(.v 6), (.v 5)])), .ite (.tru (.call (PySem.Str.ofString "occurs") [(.v 7), (.v 8), (.v 1)])) [.ret .non] [], .set (.v 1) (.v 7) (.v 8)] [.ite (.or (.cmp .NotEq (.ix (.v 5) (.int 0)) (.ix (.v 6) (.int 0))) (.cmp .NotEq (.blt .len [(.v 5)]) (.blt .len [(.v 6)]))) [.ret .non] [.ex (.mth .extend (.v 2) [(.lzip (.sl (.v 5) [(.int 1)] []) (.sl (.v 6) [(.int 1)] []))])]]]], .ret (.dc [7] (.one 7) .nam [(.v 1)] (.bl true) (.v 7) (.call (PySem.Str.ofString "settled") [(.v 7), (.v 1)]))]⟩
def nm_unifier : List PySem.Str := [(PySem.Str.ofString "equations"), (PySem.Str.ofString "bound"), (PySem.Str.ofString "waiting"), (PySem.Str.ofString "first"), (PySem.Str.ofString "second"), (PySem.Str.ofString "one"), (PySem.Str.ofString "two"), (PySem.Str.ofString "number"), (PySem.Str.ofString "term")]
def fn_match : Fn := ⟨2, 6, [.asg (.one 2) .dnew, .asg (.one 3) (.lst [(.tup [(.v 0), (.v 1)])]), .whl (.tru (.v 3)) [.asg (.tup [4, 5]) (.mth .pop (.v 3) []), .ite (.tru (.isi (.v 4) .int)) [.ite (.cmp .NotEq (.dsd (.v 2) (.v 4) (.v 5)) (.v 5)) [.ret .non] []] [.ite (.or (.tru (.isi (.v 5) .int)) (.or (.cmp .NotEq (.ix (.v 4) (.int 0)) (.ix (.v 5) (.int 0))) (.cmp .NotEq (.blt .len [(.v 4)]) (.blt .len [(.v 5)])))) [.ret .non] [.ex (.mth .extend (.v 3) [(.lzip (.sl (.v 4) [(.int 1)] []) (.sl (.v 5) [(.int 1)] []))])]]], .ret (.v 2)]⟩
def nm_match : List PySem.Str := [(PySem.Str.ofString "p"), (PySem.Str.ofString "t"), (PySem.Str.ofString "found"), (PySem.Str.ofString "waiting"), (PySem.Str.ofString "one"), (PySem.Str.ofString "two")]
def fn_meet : Fn := ⟨2, 3, [.asg (.one 2) (.call (PySem.Str.ofString "unifier") [(.lst [(.tup [(.v 0), (.call (PySem.Str.ofString "shifted") [(.v 1), (.call (PySem.Str.ofString "above") [(.v 0)])])])])]), .ite (.cmp .Is (.v 2) .non) [.ret .non] [], .ret (.ix (.call (PySem.Str.ofString "tidied") [(.tup [(.call (PySem.Str.ofString "substituted") [(.v 0), (.v 2)])])]) (.int 0))]⟩
def nm_meet : List PySem.Str := [(PySem.Str.ofString "p"), (PySem.Str.ofString "q"), (PySem.Str.ofString "found")]
def fn_joined : Fn := ⟨3, 5, [.ite (.and (.not (.tru (.isi (.v 0) .int))) (.and (.not (.tru (.isi (.v 1) .int))) (.and (.cmp .Eq (.ix (.v 0) (.int 0)) (.ix (.v 1) (.int 0))) (.cmp .Eq (.blt .len [(.v 0)]) (.blt .len [(.v 1)]))))) [.ret (.bin .Add (.tup [(.ix (.v 0) (.int 0))]) (.blt .tuple [(.lc [3, 4] (.tup [3, 4]) .zip [(.sl (.v 0) [(.int 1)] []), (.sl (.v 1) [(.int 1)] [])] (.bl true) (.call (PySem.Str.ofString "joined") [(.v 3), (.v 4), (.v 2)]))]))] [], .ret (.dsd (.v 2) (.bin .Add (.bin .Add (.call (PySem.Str.ofString "write_term") [(.v 0)]) (.str (PySem.Str.ofString " "))) (.call (PySem.Str.ofString "write_term") [(.v 1)])) (.blt .len [(.v 2)]))]⟩
def nm_joined : List PySem.Str := [(PySem.Str.ofString "p"), (PySem.Str.ofString "q"), (PySem.Str.ofString "known"), (PySem.Str.ofString "one"), (PySem.Str.ofString "two")]
def fn_join : Fn := ⟨2, 2, [.ret (.ix (.call (PySem.Str.ofString "tidied") [(.tup [(.call (PySem.Str.ofString "joined") [(.v 0), (.v 1), .dnew])])]) (.int 0))]⟩
def nm_join : List PySem.Str := [(PySem.Str.ofString "p"), (PySem.Str.ofString "q")]
def fn_same_up_to_names : Fn := ⟨2, 2, [.ret (.and (.cmp .IsNot (.call (PySem.Str.ofString "match") [(.v 0), (.v 1)]) .non) (.cmp .IsNot (.call (PySem.Str.ofString "match") [(.v 1), (.v 0)]) .non))]⟩
def nm_same_up_to_names : List PySem.Str := [(PySem.Str.ofString "p"), (PySem.Str.ofString "q")]
def fn__law_same : Fn := ⟨2, 3, [.ite (.or (.tru (.isi (.v 1) .tuple)) (.tru (.isi (.v 1) .list))) [.ite (.or (.cmp .NotEq (.isi (.v 1) .tuple) (.isi (.v 0) .tuple)) (.or (.cmp .NotEq (.isi (.v 1) .list) (.isi (.v 0) .list)) (.cmp .NotEq (.blt .len [(.v 0)]) (.blt .len [(.v 1)])))) [.ret (.bl false)] [], .ret (.cmp .Eq (.blt .len [(.lc [2] (.one 2) .rng [(.blt .len [(.v 1)])] (.not (.tru (.call (PySem.Str.ofString "_law_same") [(.ix (.v 0) (.v 2)), (.ix (.v 1) (.v 2))]))) (.v 2))]) (.int 0))] [], .ite (.cmp .Is (.v 1) .non) [.ret (.cmp .Is (.v 0) .non)] [], .ite (.or (.tru (.isi (.v 1) .bool)) (.tru (.isi (.v 0) .bool))) [.ret (.and (.isi (.v 1) .bool) (.and (.isi (.v 0) .bool) (.cmp .Eq (.v 0) (.v 1))))] [], .ite (.tru (.isi (.v 1) .int)) [.ret (.and (.isi (.v 0) .int) (.cmp .Eq (.v 0) (.v 1)))] [], .ret (.and (.isi (.v 0) .str) (.cmp .Eq (.v 0) (.v 1)))]⟩
def nm__law_same : List PySem.Str := [(PySem.Str.ofString "actual"), (PySem.Str.ofString "due"), (PySem.Str.ofString "k")]
def fn__law_is_integer : Fn := ⟨1, 1, [.ret (.and (.isi (.v 0) .int) (.not (.tru (.isi (.v 0) .bool))))]⟩
def nm__law_is_integer : List PySem.Str := [(PySem.Str.ofString "actual")]
def fn__law_pool : Fn := ⟨1, 3, [.asg (.one 1) (.int 7), .loop (.one 2) .val [(.sl (.v 0) [] [(.int 63)])] [.asg (.one 1) (.bin .Mod (.blt .int [(.bin .Add (.bin .Mult (.v 1) (.int 31)) (.v 2))]) (.int 1000003))], .ret (.lst [(.blt .list [(.v 0)]), (.int 0), (.int 0), (.int 0), (.v 1)])]⟩
def nm__law_pool : List PySem.Str := [(PySem.Str.ofString "script"), (PySem.Str.ofString "salt"), (PySem.Str.ofString "cell")]
def fn__law_spread : Fn := ⟨1, 4, [.asg (.one 1) (.bin .Mod (.blt .int [(.v 0)]) (.int 2147483647)), .asg (.one 2) (.int 1), .loop (.one 3) .rng [(.int 4)] [.asg (.one 1) (.bin .Mod (.blt .int [(.bin .Add (.bin .Add (.bin .Mult (.v 1) (.int 48271)) (.int 12345)) (.v 3))]) (.int 2147483647)), .asg (.one 2) (.bin .Add (.bin .Mult (.v 2) (.int 2147483647)) (.v 1))], .ret (.v 2)]⟩
def nm__law_spread : List PySem.Str := [(PySem.Str.ofString "cell"), (PySem.Str.ofString "mixed"), (PySem.Str.ofString "total"), (PySem.Str.ofString "k")]
def fn__law_draw : Fn := ⟨2, 5, [.ite (.and (.cmp .LtE (.ix (.v 0) (.int 2)) (.int 0)) (.cmp .Lt (.ix (.v 0) (.int 1)) (.blt .len [(.ix (.v 0) (.int 0))]))) [.asg (.one 2) (.ix (.ix (.v 0) (.int 0)) (.ix (.v 0) (.int 1))), .set (.v 0) (.int 1) (.bin .Add (.ix (.v 0) (.int 1)) (.int 1)), .set (.v 0) (.int 2) (.v 2), .ite (.cmp .Lt (.v 2) (.int 1000000000000000000)) [.set (.v 0) (.int 2) (.call (PySem.Str.ofString "_law_spread") [(.v 2)])] []] [], .set (.v 0) (.int 3) (.bin .Add (.ix (.v 0) (.int 3)) (.int 1)), .ite (.cmp .LtE (.ix (.v 0) (.int 2)) (.int 0)) [.asg (.one 3) (.bin .Mod (.blt .int [(.bin .Add (.bin .Add (.bin .Mult (.ix (.v 0) (.int 4)) (.int 48271)) (.bin .Mult (.ix (.v 0) (.int 3)) (.int 69621))) (.int 1))]) (.int 2147483647)), .asg (.one 3) (.bin .Mod (.blt .int [(.bin .Add (.bin .Mult (.v 3) (.int 16807)) (.ix (.v 0) (.int 3)))]) (.int 2147483629)), .ret (.bin .Mod (.bin .FloorDiv (.v 3) (.int 5)) (.v 1))] [], .asg (.one 4) (.bin .Mod (.blt .int [(.ix (.v 0) (.int 2))]) (.v 1)), .set (.v 0) (.int 2) (.bin .FloorDiv (.ix (.v 0) (.int 2)) (.v 1)), .ret (.v 4)]⟩
def nm__law_draw : List PySem.Str := [(PySem.Str.ofString "pool"), (PySem.Str.ofString "many"), (PySem.Str.ofString "cell"), (PySem.Str.ofString "mixed"), (PySem.Str.ofString "value")]
def fn__law_pick : Fn := ⟨2, 2, [.ret (.ix (.v 1) (.call (PySem.Str.ofString "_law_draw") [(.v 0), (.blt .len [(.v 1)])]))]⟩
def nm__law_pick : List PySem.Str := [(PySem.Str.ofString "pool"), (PySem.Str.ofString "items")]
def fn__law_spelled : Fn := ⟨1, 3, [.asg (.one 1) (.str (PySem.Str.ofString "")), .asg (.one 2) (.v 0), .whl (.cmp .Gt (.v 2) (.int 0)) [.asg (.one 1) (.bin .Add (.ix (.str (PySem.Str.ofString "abcdefghijklmnopqrstuvwxyz")) (.bin .Mod (.blt .int [(.bin .Sub (.v 2) (.int 1))]) (.int 26))) (.v 1)), .asg (.one 2) (.bin .FloorDiv (.bin .Sub (.v 2) (.int 1)) (.int 26))], .ret (.v 1)]⟩
def nm__law_spelled : List PySem.Str := [(PySem.Str.ofString "number"), (PySem.Str.ofString "word"), (PySem.Str.ofString "left")]
def fn__law_words : Fn := ⟨2, 5, [.asg (.one 2) (.lst []), .loop (.one 3) .rng [(.v 1)] [.asg (.one 4) (.bin .Add (.int 1) (.call (PySem.Str.ofString "_law_draw") [(.v 0), (.ix (.tup [(.int 26), (.int 702), (.int 18278), (.int 475254), (.int 95428956661682176)]) (.call (PySem.Str.ofString "_law_draw") [(.v 0), (.int 5)]))])), .whl (.cmp .In (.v 4) (.v 2)) [.asg (.one 4) (.bin .Add (.v 4) (.int 1))], .ex (.mth .append (.v 2) [(.v 4)])], .ret (.lc [4] (.one 4) .nam [(.v 2)] (.bl true) (.call (PySem.Str.ofString "_law_spelled") [(.v 4)]))]⟩
def nm__law_words : List PySem.Str := [(PySem.Str.ofString "pool"), (PySem.Str.ofString "many"), (PySem.Str.ofString "taken"), (PySem.Str.ofString "k"), (PySem.Str.ofString "number")]
def fn__law_constructors : Fn := ⟨1, 4, [.asg (.one 1) (.ix (.tup [(.tup [(.int 0), (.int 1)]), (.tup [(.int 0), (.int 1), (.int 2)]), (.tup [(.int 0), (.int 0), (.int 1)]), (.tup [(.int 0), (.int 2)]), (.tup [(.int 1), (.int 0), (.int 0), (.int 2)]), (.tup [(.int 0), (.int 2), (.int 0)]), (.tup [(.int 1), (.int 1), (.int 0)]), (.tup [(.int 2), (.int 0), (.int 0)]), (.tup [(.int 0), (.int 1), (.int 0), (.int 1), (.int 2)]), (.tup [(.int 0), (.int 0)])]) (.call (PySem.Str.ofString "_law_draw") [(.v 0), (.int 10)])), .asg (.one 2) (.call (PySem.Str.ofString "_law_words") [(.v 0), (.blt .len [(.v 1)])]), .ret (.blt .tuple [(.lc [3] (.one 3) .rng [(.blt .len [(.v 1)])] (.bl true) (.tup [(.ix (.v 2) (.v 3)), (.ix (.v 1) (.v 3))]))])]⟩
def nm__law_constructors : List PySem.Str := [(PySem.Str.ofString "pool"), (PySem.Str.ofString "arities"), (PySem.Str.ofString "words"), (PySem.Str.ofString "k")]
def fn__law_term : Fn := ⟨4, 6, [.ite (.and (.cmp .Gt (.blt .len [(.v 2)]) (.int 0)) (.cmp .Eq (.call (PySem.Str.ofString "_law_draw") [(.v 0), (.int 2)]) (.int 0))) [.ret (.call (PySem.Str.ofString "_law_pick") [(.v 0), (.v 2)])] [], .asg (.one 4) (.call (PySem.Str.ofString "_law_pick") [(.v 0), (.lc [4] (.one 4) .nam [(.v 1)] (.or (.cmp .Eq (.ix (.v 4) (.int 1)) (.int 0)) (.cmp .Gt (.v 3) (.int 1))) (.v 4))]), .ret (.bin .Add (.tup [(.ix (.v 4) (.int 0))]) (.blt .tuple [(.lc [5] (.one 5) .rng [(.ix (.v 4) (.int 1))] (.bl true) (.call (PySem.Str.ofString "_law_term") [(.v 0), (.v 1), (.v 2), (.bin .Sub (.v 3) (.int 1))]))]))]⟩
def nm__law_term : List PySem.Str := [(PySem.Str.ofString "pool"), (PySem.Str.ofString "constructors"), (PySem.Str.ofString "numbers"), (PySem.Str.ofString "deep"), (PySem.Str.ofString "pair"), (PySem.Str.ofString "k")]
def fn__law_occurrences : Fn := ⟨1, 3, [.ite (.tru (.call (PySem.Str.ofString "_law_is_integer") [(.v 0)])) [.ret (.lst [(.v 0)])] [], .asg (.one 1) (.lst []), .loop (.one 2) .val [(.sl (.v 0) [(.int 1)] [])] [.asg (.one 1) (.bin .Add (.v 1) (.call (PySem.Str.ofString "_law_occurrences") [(.v 2)]))], .ret (.v 1)]⟩
def nm__law_occurrences : List PySem.Str := [(PySem.Str.ofString "term"), (PySem.Str.ofString "row"), (PySem.Str.ofString "part")]
def fn__law_unlike : Fn := ⟨1, 3, [.asg (.one 1) (.lst []), .loop (.one 2) .nam [(.v 0)] [.ite (.cmp .NotIn (.v 2) (.v 1)) [.ex (.mth .append (.v 1) [(.v 2)])] []], .ret (.v 1)]⟩
def nm__law_unlike : List PySem.Str := [(PySem.Str.ofString "row"), (PySem.Str.ofString "seen"), (PySem.Str.ofString "item")]
def fn__law_numbers : Fn := ⟨1, 3, [.asg (.one 1) (.lst []), .loop (.one 2) .nam [(.v 0)] [.asg (.one 1) (.bin .Add (.v 1) (.call (PySem.Str.ofString "_law_occurrences") [(.v 2)]))], .ret (.call (PySem.Str.ofString "_law_unlike") [(.v 1)])]⟩
def nm__law_numbers : List PySem.Str := [(PySem.Str.ofString "terms"), (PySem.Str.ofString "row"), (PySem.Str.ofString "term")]
def fn__law_replace : Fn := ⟨2, 3, [.ite (.tru (.call (PySem.Str.ofString "_law_is_integer") [(.v 0)])) [.ret (.ite (.cmp .In (.v 0) (.v 1)) (.ix (.v 1) (.v 0)) (.v 0))] [], .ret (.bin .Add (.tup [(.ix (.v 0) (.int 0))]) (.blt .tuple [(.lc [2] (.one 2) .val [(.sl (.v 0) [(.int 1)] [])] (.bl true) (.call (PySem.Str.ofString "_law_replace") [(.v 2), (.v 1)]))]))]⟩
def nm__law_replace : List PySem.Str := [(PySem.Str.ofString "term"), (PySem.Str.ofString "given"), (PySem.Str.ofString "part")]
def fn__law_renumbered : Fn := ⟨1, 5, [.asg (.one 1) (.call (PySem.Str.ofString "_law_numbers") [(.v 0)]), .asg (.one 2) .dnew, .loop (.one 3) .rng [(.blt .len [(.v 1)])] [.set (.v 2) (.ix (.v 1) (.v 3)) (.v 3)], .ret (.blt .tuple [(.lc [4] (.one 4) .nam [(.v 0)] (.bl true) (.call (PySem.Str.ofString "_law_replace") [(.v 4), (.v 2)]))])]⟩
def nm__law_renumbered : List PySem.Str := [(PySem.Str.ofString "terms"), (PySem.Str.ofString "numbers"), (PySem.Str.ofString "names"), (PySem.Str.ofString "k"), (PySem.Str.ofString "term")]
def fn__law_moved : Fn := ⟨2, 3, [.ite (.tru (.call (PySem.Str.ofString "_law_is_integer") [(.v 0)])) [.ret (.bin .Add (.v 0) (.v 1))] [], .ret (.bin .Add (.tup [(.ix (.v 0) (.int 0))]) (.blt .tuple [(.lc [2] (.one 2) .val [(.sl (.v 0) [(.int 1)] [])] (.bl true) (.call (PySem.Str.ofString "_law_moved") [(.v 2), (.v 1)]))]))]⟩
def nm__law_moved : List PySem.Str := [(PySem.Str.ofString "term"), (PySem.Str.ofString "by"), (PySem.Str.ofString "part")]
def fn__law_taken : Fn := ⟨3, 4, [.ite (.tru (.call (PySem.Str.ofString "_law_is_integer") [(.v 0)])) [.ite (.cmp .In (.v 0) (.v 2)) [.ret (.cmp .Eq (.ix (.v 2) (.v 0)) (.v 1))] [], .set (.v 2) (.v 0) (.v 1), .ret (.bl true)] [], .ite (.or (.tru (.call (PySem.Str.ofString "_law_is_integer") [(.v 1)])) (.or (.cmp .NotEq (.ix (.v 0) (.int 0)) (.ix (.v 1) (.int 0))) (.cmp .NotEq (.blt .len [(.v 0)]) (.blt .len [(.v 1)])))) [.ret (.bl false)] [], .loop (.one 3) .rng [(.int 1), (.blt .len [(.v 1)])] [.ite (.not (.tru (.call (PySem.Str.ofString "_law_taken") [(.ix (.v 0) (.v 3)), (.ix (.v 1) (.v 3)), (.v 2)]))) [.ret (.bl false)] []], .ret (.bl true)]⟩
def nm__law_taken : List PySem.Str := [(PySem.Str.ofString "general"), (PySem.Str.ofString "term"), (PySem.Str.ofString "given"), (PySem.Str.ofString "k")]
def fn__law_is_instance : Fn := ⟨2, 2, [.ret (.call (PySem.Str.ofString "_law_taken") [(.v 0), (.v 1), .dnew])]⟩
def nm__law_is_instance : List PySem.Str := [(PySem.Str.ofString "general"), (PySem.Str.ofString "term")]
def fn__law_alike : Fn := ⟨2, 2, [.ret (.and (.call (PySem.Str.ofString "_law_is_instance") [(.v 0), (.v 1)]) (.call (PySem.Str.ofString "_law_is_instance") [(.v 1), (.v 0)]))]⟩
def nm__law_alike : List PySem.Str := [(PySem.Str.ofString "p"), (PySem.Str.ofString "q")]
def fn__law_meet_of : Fn := ⟨2, 2, [.ret (.ite (.or (.cmp .Is (.v 0) .non) (.cmp .Is (.v 1) .non)) .non (.call (PySem.Str.ofString "meet") [(.v 0), (.v 1)]))]⟩
def nm__law_meet_of : List PySem.Str := [(PySem.Str.ofString "p"), (PySem.Str.ofString "q")]
def fn_law : Fn := ⟨1, 11, [.asg (.one 1) (.call (PySem.Str.ofString "_law_pool") [(.v 0)]), .asg (.one 2) (.call (PySem.Str.ofString "_law_constructors") [(.v 1)]), .loop (.one 3) .rng [(.int 3)] [.asg (.one 4) (.call (PySem.Str.ofString "_law_term") [(.v 1), (.v 2), (.lst [(.int 0), (.int 1)]), (.bin .Add (.int 1) (.call (PySem.Str.ofString "_law_draw") [(.v 1), (.int 3)]))]), .asg (.one 5) (.call (PySem.Str.ofString "_law_term") [(.v 1), (.v 2), (.lst [(.int 0), (.int 1), (.int 2)]), (.bin .Add (.int 1) (.call (PySem.Str.ofString "_law_draw") [(.v 1), (.int 3)]))]), .asg (.one 6) (.call (PySem.Str.ofString "_law_term") [(.v 1), (.v 2), (.lst [(.int 0), (.int 1)]), (.bin .Add (.int 1) (.call (PySem.Str.ofString "_law_draw") [(.v 1), (.int 3)]))]), .ite (.cmp .Eq (.call (PySem.Str.ofString "_law_draw") [(.v 1), (.int 2)]) (.int 0)) [.asg (.one 4) (.call (PySem.Str.ofString "_law_replace") [(.v 5), (.dlit [(.int 0), (.v 6), (.int 2), (.int 1)])])] [], .asg (.one 7) (.call (PySem.Str.ofString "meet") [(.v 4), (.v 5)]), .ite (.or (.not (.tru (.call (PySem.Str.ofString "_law_same") [(.call (PySem.Str.ofString "meet") [(.v 5), (.v 4)]), (.v 7)]))) (.not (.tru (.call (PySem.Str.ofString "_law_same") [(.call (PySem.Str.ofString "join") [(.v 5), (.v 4)]), (.call (PySem.Str.ofString "join") [(.v 4), (.v 5)])])))) [.ret (.bl false)] [], .ite (.not (.tru (.call (PySem.Str.ofString "_law_same") [(.call (PySem.Str.ofString "_law_meet_of") [(.v 7), (.v 6)]), (.call (PySem.Str.ofString "_law_meet_of") [(.v 4), (.call (PySem.Str.ofString "_law_meet_of") [(.v 5), (.v 6)])])]))) [.ret (.bl false)] [], .ite (.not (.tru (.call (PySem.Str.ofString "_law_same") [(.call (PySem.Str.ofString "join") [(.call (PySem.Str.ofString "join") [(.v 4), (.v 5)]), (.v 6)]), (.call (PySem.Str.ofString "join") [(.v 4), (.call (PySem.Str.ofString "join") [(.v 5), (.v 6)])])]))) [.ret (.bl false)] [], .asg (.one 8) (.ix (.call (PySem.Str.ofString "_law_renumbered") [(.tup [(.v 4)])]) (.int 0)), .ite (.not (.tru (.call (PySem.Str.ofString "_law_same") [(.lst [(.call (PySem.Str.ofString "meet") [(.v 4), (.v 4)]), (.call (PySem.Str.ofString "join") [(.v 4), (.v 4)]), (.call (PySem.Str.ofString "meet") [(.v 4), (.call (PySem.Str.ofString "join") [(.v 4), (.v 5)])])]), (.lst [(.v 8), (.v 8), (.v 8)])]))) [.ret (.bl false)] [], .ite (.and (.cmp .IsNot (.v 7) .non) (.not (.tru (.call (PySem.Str.ofString "_law_same") [(.call (PySem.Str.ofString "join") [(.v 4), (.v 7)]), (.v 8)])))) [.ret (.bl false)] [], .asg (.one 9) (.and (.cmp .IsNot (.v 7) .non) (.call (PySem.Str.ofString "_law_alike") [(.v 7), (.v 4)])), .ite (.or (.cmp .NotEq (.v 9) (.call (PySem.Str.ofString "_law_is_instance") [(.v 5), (.v 4)])) (.cmp .NotEq (.v 9) (.call (PySem.Str.ofString "_law_alike") [(.call (PySem.Str.ofString "join") [(.v 4), (.v 5)]), (.v 5)]))) [.ret (.bl false)] [], .loop (.one 10) .val [(.tup [(.v 4), (.v 5), (.v 8), (.call (PySem.Str.ofString "_law_moved") [(.v 4), (.int 3)]), (.call (PySem.Str.ofString "_law_replace") [(.v 5), (.dlit [(.int 0), (.int 1), (.int 1), (.int 0)])]), (.call (PySem.Str.ofString "_law_replace") [(.v 5), (.dlit [(.int 1), (.int 0)])])])] [.ite (.not (.tru (.call (PySem.Str.ofString "_law_same") [(.call (PySem.Str.ofString "same_up_to_names") [(.v 4), (.v 10)]), (.call (PySem.Str.ofString "_law_alike") [(.v 4), (.v 10)])]))) [.ret (.bl false)] []]], .ret (.bl true)]⟩
def nm_law : List PySem.Str := [(PySem.Str.ofString "script"), (PySem.Str.ofString "pool"), (PySem.Str.ofString "constructors"), (PySem.Str.ofString "turn"), (PySem.Str.ofString "p"), (PySem.Str.ofString "q"), (PySem.Str.ofString "r"), (PySem.Str.ofString "both"), (PySem.Str.ofString "tidy"), (PySem.Str.ofString "below"), (PySem.Str.ofString "other")]
def tabF : List (PySem.Str × Fn) := [((PySem.Str.ofString "distinct"), fn_distinct), ((PySem.Str.ofString "occurrences"), fn_occurrences), ((PySem.Str.ofString "substituted"), fn_substituted), ((PySem.Str.ofString "shifted"), fn_shifted), ((PySem.Str.ofString "above"), fn_above), ((PySem.Str.ofString "tidied"), fn_tidied), ((PySem.Str.ofString "write_term"), fn_write_term), ((PySem.Str.ofString "resolved"), fn_resolved), ((PySem.Str.ofString "occurs"), fn_occurs), ((PySem.Str.ofString "settled"), fn_settled), ((PySem.Str.ofString "unifier"), fn_unifier), ((PySem.Str.ofString "match"), fn_match), ((PySem.Str.ofString "meet"), fn_meet), ((PySem.Str.ofString "joined"), fn_joined), ((PySem.Str.ofString "join"), fn_join), ((PySem.Str.ofString "same_up_to_names"), fn_same_up_to_names), ((PySem.Str.ofString "_law_same"), fn__law_same), ((PySem.Str.ofString "_law_is_integer"), fn__law_is_integer), ((PySem.Str.ofString "_law_pool"), fn__law_pool), ((PySem.Str.ofString "_law_spread"), fn__law_spread), ((PySem.Str.ofString "_law_draw"), fn__law_draw), ((PySem.Str.ofString "_law_pick"), fn__law_pick), ((PySem.Str.ofString "_law_spelled"), fn__law_spelled), ((PySem.Str.ofString "_law_words"), fn__law_words), ((PySem.Str.ofString "_law_constructors"), fn__law_constructors), ((PySem.Str.ofString "_law_term"), fn__law_term), ((PySem.Str.ofString "_law_occurrences"), fn__law_occurrences), ((PySem.Str.ofString "_law_unlike"), fn__law_unlike), ((PySem.Str.ofString "_law_numbers"), fn__law_numbers), ((PySem.Str.ofString "_law_replace"), fn__law_replace), ((PySem.Str.ofString "_law_renumbered"), fn__law_renumbered), ((PySem.Str.ofString "_law_moved"), fn__law_moved), ((PySem.Str.ofString "_law_taken"), fn__law_taken), ((PySem.Str.ofString "_law_is_instance"), fn__law_is_instance), ((PySem.Str.ofString "_law_alike"), fn__law_alike), ((PySem.Str.ofString "_law_meet_of"), fn__law_meet_of), ((PySem.Str.ofString "law"), fn_law)]
def tabG : List (PySem.Str × PySem.Str) := []
def kd_distinct : List Kd := [.bor, .own, .shr]
def kd_occurrences : List Kd := [.shr, .own, .shr]
def kd_substituted : List Kd := [.shr, .shr, .shr]
def kd_shifted : List Kd := [.shr, .shr, .shr]
def kd_above : List Kd := [.shr]
def kd_tidied : List Kd := [.shr, .own, .shr, .shr, .shr]
def kd_write_term : List Kd := [.shr, .shr]
def kd_resolved : List Kd := [.shr, .bor]
def kd_occurs : List Kd := [.shr, .shr, .bor, .shr]
def kd_settled : List Kd := [.shr, .bor, .shr]
def kd_unifier : List Kd := [.shr, .own, .own, .shr, .shr, .shr, .shr, .shr, .shr]
def kd_match : List Kd := [.shr, .shr, .own, .own, .shr, .shr]
def kd_meet : List Kd := [.shr, .shr, .shr]
def kd_joined : List Kd := [.shr, .shr, .io, .shr, .shr]
def kd_join : List Kd := [.shr, .shr]
def kd_same_up_to_names : List Kd := [.shr, .shr]
def kd__law_same : List Kd := [.shr, .shr, .shr]
def kd__law_is_integer : List Kd := [.shr]
def kd__law_pool : List Kd := [.shr, .shr, .shr]
def kd__law_spread : List Kd := [.shr, .shr, .shr, .shr]
def kd__law_draw : List Kd := [.io, .shr, .shr, .shr, .shr]
def kd__law_pick : List Kd := [.io, .shr]
def kd__law_spelled : List Kd := [.shr, .shr, .shr]
def kd__law_words : List Kd := [.io, .shr, .own, .shr, .shr]
def kd__law_constructors : List Kd := [.io, .shr, .shr, .shr]
def kd__law_term : List Kd := [.io, .shr, .shr, .shr, .shr, .shr]
def kd__law_occurrences : List Kd := [.shr, .shr, .shr]
def kd__law_unlike : List Kd := [.shr, .own, .shr]
def kd__law_numbers : List Kd := [.shr, .shr, .shr]
def kd__law_replace : List Kd := [.shr, .bor, .shr]
def kd__law_renumbered : List Kd := [.shr, .shr, .own, .shr, .shr]
def kd__law_moved : List Kd := [.shr, .shr, .shr]
def kd__law_taken : List Kd := [.shr, .shr, .io, .shr]
def kd__law_is_instance : List Kd := [.shr, .shr]
def kd__law_alike : List Kd := [.shr, .shr]
def kd__law_meet_of : List Kd := [.shr, .shr]
def kd_law : List Kd := [.shr, .own, .shr, .shr, .shr, .shr, .shr, .shr, .shr, .shr, .shr]
def tabK : List (PySem.Str × List Kd) := [((PySem.Str.ofString "distinct"), kd_distinct), ((PySem.Str.ofString "occurrences"), kd_occurrences), ((PySem.Str.ofString "substituted"), kd_substituted), ((PySem.Str.ofString "shifted"), kd_shifted), ((PySem.Str.ofString "above"), kd_above), ((PySem.Str.ofString "tidied"), kd_tidied), ((PySem.Str.ofString "write_term"), kd_write_term), ((PySem.Str.ofString "resolved"), kd_resolved), ((PySem.Str.ofString "occurs"), kd_occurs), ((PySem.Str.ofString "settled"), kd_settled), ((PySem.Str.ofString "unifier"), kd_unifier), ((PySem.Str.ofString "match"), kd_match), ((PySem.Str.ofString "meet"), kd_meet), ((PySem.Str.ofString "joined"), kd_joined), ((PySem.Str.ofString "join"), kd_join), ((PySem.Str.ofString "same_up_to_names"), kd_same_up_to_names), ((PySem.Str.ofString "_law_same"), kd__law_same), ((PySem.Str.ofString "_law_is_integer"), kd__law_is_integer), ((PySem.Str.ofString "_law_pool"), kd__law_pool), ((PySem.Str.ofString "_law_spread"), kd__law_spread), ((PySem.Str.ofString "_law_draw"), kd__law_draw), ((PySem.Str.ofString "_law_pick"), kd__law_pick), ((PySem.Str.ofString "_law_spelled"), kd__law_spelled), ((PySem.Str.ofString "_law_words"), kd__law_words), ((PySem.Str.ofString "_law_constructors"), kd__law_constructors), ((PySem.Str.ofString "_law_term"), kd__law_term), ((PySem.Str.ofString "_law_occurrences"), kd__law_occurrences), ((PySem.Str.ofString "_law_unlike"), kd__law_unlike), ((PySem.Str.ofString "_law_numbers"), kd__law_numbers), ((PySem.Str.ofString "_law_replace"), kd__law_replace), ((PySem.Str.ofString "_law_renumbered"), kd__law_renumbered), ((PySem.Str.ofString "_law_moved"), kd__law_moved), ((PySem.Str.ofString "_law_taken"), kd__law_taken), ((PySem.Str.ofString "_law_is_instance"), kd__law_is_instance), ((PySem.Str.ofString "_law_alike"), kd__law_alike), ((PySem.Str.ofString "_law_meet_of"), kd__law_meet_of), ((PySem.Str.ofString "law"), kd_law)]
def tabR : List PySem.Str := [(PySem.Str.ofString "distinct"), (PySem.Str.ofString "_law_pool")]
def P0 : Pr := ⟨fun x => tabF.lookup x, fun x => tabG.lookup x, fun x => (tabK.lookup x).getD [], fun x => tabR.contains x⟩
/-- the same, closed to computing -/
noncomputable def PT : Pr := Classical.choose (⟨P0, rfl⟩ : ∃ p : Pr, p = P0)
theorem PT_eq : PT = P0 := Classical.choose_spec (⟨P0, rfl⟩ : ∃ p : Pr, p = P0)
theorem F_distinct : PT.F (PySem.Str.ofString "distinct") = some fn_distinct := by rw [PT_eq]; kernel_rfl
theorem K_distinct : PT.K (PySem.Str.ofString "distinct") = kd_distinct := by rw [PT_eq]; kernel_rfl
theorem N_distinct : fn_distinct.n = 3 := rfl
theorem R_distinct : PT.R (PySem.Str.ofString "distinct") = true := by rw [PT_eq]; kernel_rfl
theorem F_occurrences : PT.F (PySem.Str.ofString "occurrences") = some fn_occurrences := by rw [PT_eq]; kernel_rfl
theorem K_occurrences : PT.K (PySem.Str.ofString "occurrences") = kd_occurrences := by rw [PT_eq]; kernel_rfl
theorem N_occurrences : fn_occurrences.n = 3 := rfl
theorem R_occurrences : PT.R (PySem.Str.ofString "occurrences") = false := by rw [PT_eq]; kernel_rfl
theorem F_substituted : PT.F (PySem.Str.ofString "substituted") = some fn_substituted := by rw [PT_eq]; kernel_rfl
theorem K_substituted : PT.K (PySem.Str.ofString "substituted") = kd_substituted := by rw [PT_eq]; kernel_rfl
theorem N_substituted : fn_substituted.n = 3 := rfl
theorem R_substituted : PT.R (PySem.Str.ofString "substituted") = false := by rw [PT_eq]; kernel_rfl
theorem F_shifted : PT.F (PySem.Str.ofString "shifted") = some fn_shifted := by rw [PT_eq]; kernel_rfl
theorem K_shifted : PT.K (PySem.Str.ofString "shifted") = kd_shifted := by rw [PT_eq]; kernel_rfl
theorem N_shifted : fn_shifted.n = 3 := rfl
theorem R_shifted : PT.R (PySem.Str.ofString "shifted") = false := by rw [PT_eq]; kernel_rfl
theorem F_above : PT.F (PySem.Str.ofString "above") = some fn_above := by rw [PT_eq]; kernel_rfl
theorem K_above : PT.K (PySem.Str.ofString "above") = kd_above := by rw [PT_eq]; kernel_rfl
theorem N_above : fn_above.n = 1 := rfl
theorem R_above : PT.R (PySem.Str.ofString "above") = false := by rw [PT_eq]; kernel_rfl
theorem F_tidied : PT.F (PySem.Str.ofString "tidied") = some fn_tidied := by rw [PT_eq]; kernel_rfl
theorem K_tidied : PT.K (PySem.Str.ofString "tidied") = kd_tidied := by rw [PT_eq]; kernel_rfl
theorem N_tidied : fn_tidied.n = 5 := rfl
theorem R_tidied : PT.R (PySem.Str.ofString "tidied") = false := by rw [PT_eq]; kernel_rfl
theorem F_write_term : PT.F (PySem.Str.ofString "write_term") = some fn_write_term := by rw [PT_eq]; kernel_rfl
theorem K_write_term : PT.K (PySem.Str.ofString "write_term") = kd_write_term := by rw [PT_eq]; kernel_rfl
theorem N_write_term : fn_write_term.n = 2 := rfl
theorem R_write_term : PT.R (PySem.Str.ofString "write_term") = false := by rw [PT_eq]; kernel_rfl
theorem F_resolved : PT.F (PySem.Str.ofString "resolved") = some fn_resolved := by rw [PT_eq]; kernel_rfl
theorem K_resolved : PT.K (PySem.Str.ofString "resolved") = kd_resolved := by rw [PT_eq]; kernel_rfl
theorem N_resolved : fn_resolved.n = 2 := rfl
theorem R_resolved : PT.R (PySem.Str.ofString "resolved") = false := by rw [PT_eq]; kernel_rfl
theorem F_occurs : PT.F (PySem.Str.ofString "occurs") = some fn_occurs := by rw [PT_eq]; kernel_rfl
theorem K_occurs : PT.K (PySem.Str.ofString "occurs") = kd_occurs := by rw [PT_eq]; kernel_rfl
theorem N_occurs : fn_occurs.n = 4 := rfl
theorem R_occurs : PT.R (PySem.Str.ofString "occurs") = false := by rw [PT_eq]; kernel_rfl
theorem F_settled : PT.F (PySem.Str.ofString "settled") = some fn_settled := by rw [PT_eq]; kernel_rfl
theorem K_settled : PT.K (PySem.Str.ofString "settled") = kd_settled := by rw [PT_eq]; kernel_rfl
theorem N_settled : fn_settled.n = 3 := rfl
theorem R_settled : PT.R (PySem.Str.ofString "settled") = false := by rw [PT_eq]; kernel_rfl
theorem F_unifier : PT.F (PySem.Str.ofString "unifier") = some fn_unifier := by rw [PT_eq]; kernel_rfl
theorem K_unifier : PT.K (PySem.Str.ofString "unifier") = kd_unifier := by rw [PT_eq]; kernel_rfl
theorem N_unifier : fn_unifier.n = 9 := rfl
theorem R_unifier : PT.R (PySem.Str.ofString "unifier") = false := by rw [PT_eq]; kernel_rfl
theorem F_match : PT.F (PySem.Str.ofString "match") = some fn_match := by rw [PT_eq]; kernel_rfl
theorem K_match : PT.K (PySem.Str.ofString "match") = kd_match := by rw [PT_eq]; kernel_rfl
theorem N_match : fn_match.n = 6 := rfl
theorem R_match : PT.R (PySem.Str.ofString "match") = false := by rw [PT_eq]; kernel_rfl
theorem F_meet : PT.F (PySem.Str.ofString "meet") = some fn_meet := by rw [PT_eq]; kernel_rfl
theorem K_meet : PT.K (PySem.Str.ofString "meet") = kd_meet := by rw [PT_eq]; kernel_rfl
theorem N_meet : fn_meet.n = 3 := rfl
theorem R_meet : PT.R (PySem.Str.ofString "meet") = false := by rw [PT_eq]; kernel_rfl
theorem F_joined : PT.F (PySem.Str.ofString "joined") = some fn_joined := by rw [PT_eq]; kernel_rfl
theorem K_joined : PT.K (PySem.Str.ofString "joined") = kd_joined := by rw [PT_eq]; kernel_rfl
theorem N_joined : fn_joined.n = 5 := rfl
theorem R_joined : PT.R (PySem.Str.ofString "joined") = false := by rw [PT_eq]; kernel_rfl
theorem F_join : PT.F (PySem.Str.ofString "join") = some fn_join := by rw [PT_eq]; kernel_rfl
theorem K_join : PT.K (PySem.Str.ofString "join") = kd_join := by rw [PT_eq]; kernel_rfl
theorem N_join : fn_join.n = 2 := rfl
theorem R_join : PT.R (PySem.Str.ofString "join") = false := by rw [PT_eq]; kernel_rfl
theorem F_same_up_to_names : PT.F (PySem.Str.ofString "same_up_to_names") = some fn_same_up_to_names := by rw [PT_eq]; kernel_rfl
theorem K_same_up_to_names : PT.K (PySem.Str.ofString "same_up_to_names") = kd_same_up_to_names := by rw [PT_eq]; kernel_rfl
theorem N_same_up_to_names : fn_same_up_to_names.n = 2 := rfl
theorem R_same_up_to_names : PT.R (PySem.Str.ofString "same_up_to_names") = false := by rw [PT_eq]; kernel_rfl
theorem F__law_same : PT.F (PySem.Str.ofString "_law_same") = some fn__law_same := by rw [PT_eq]; kernel_rfl
theorem K__law_same : PT.K (PySem.Str.ofString "_law_same") = kd__law_same := by rw [PT_eq]; kernel_rfl
theorem N__law_same : fn__law_same.n = 3 := rfl
theorem R__law_same : PT.R (PySem.Str.ofString "_law_same") = false := by rw [PT_eq]; kernel_rfl
theorem F__law_is_integer : PT.F (PySem.Str.ofString "_law_is_integer") = some fn__law_is_integer := by rw [PT_eq]; kernel_rfl
theorem K__law_is_integer : PT.K (PySem.Str.ofString "_law_is_integer") = kd__law_is_integer := by rw [PT_eq]; kernel_rfl
theorem N__law_is_integer : fn__law_is_integer.n = 1 := rfl
theorem R__law_is_integer : PT.R (PySem.Str.ofString "_law_is_integer") = false := by rw [PT_eq]; kernel_rfl
theorem F__law_pool : PT.F (PySem.Str.ofString "_law_pool") = some fn__law_pool := by rw [PT_eq]; kernel_rfl
theorem K__law_pool : PT.K (PySem.Str.ofString "_law_pool") = kd__law_pool := by rw [PT_eq]; kernel_rfl
theorem N__law_pool : fn__law_pool.n = 3 := rfl
theorem R__law_pool : PT.R (PySem.Str.ofString "_law_pool") = true := by rw [PT_eq]; kernel_rfl
theorem F__law_spread : PT.F (PySem.Str.ofString "_law_spread") = some fn__law_spread := by rw [PT_eq]; kernel_rfl
theorem K__law_spread : PT.K (PySem.Str.ofString "_law_spread") = kd__law_spread := by rw [PT_eq]; kernel_rfl
theorem N__law_spread : fn__law_spread.n = 4 := rfl
theorem R__law_spread : PT.R (PySem.Str.ofString "_law_spread") = false := by rw [PT_eq]; kernel_rfl
theorem F__law_draw : PT.F (PySem.Str.ofString "_law_draw") = some fn__law_draw := by rw [PT_eq]; kernel_rfl
theorem K__law_draw : PT.K (PySem.Str.ofString "_law_draw") = kd__law_draw := by rw [PT_eq]; kernel_rfl
theorem N__law_draw : fn__law_draw.n = 5 := rfl
theorem R__law_draw : PT.R (PySem.Str.ofString "_law_draw") = false := by rw [PT_eq]; kernel_rfl
theorem F__law_pick : PT.F (PySem.Str.ofString "_law_pick") = some fn__law_pick := by rw [PT_eq]; kernel_rfl
theorem K__law_pick : PT.K (PySem.Str.ofString "_law_pick") = kd__law_pick := by rw [PT_eq]; kernel_rfl
theorem N__law_pick : fn__law_pick.n = 2 := rfl
theorem R__law_pick : PT.R (PySem.Str.ofString "_law_pick") = false := by rw [PT_eq]; kernel_rfl
theorem F__law_spelled : PT.F (PySem.Str.ofString "_law_spelled") = some fn__law_spelled := by rw [PT_eq]; kernel_rfl
theorem K__law_spelled : PT.K (PySem.Str.ofString "_law_spelled") = kd__law_spelled := by rw [PT_eq]; kernel_rfl
theorem N__law_spelled : fn__law_spelled.n = 3 := rfl
theorem R__law_spelled : PT.R (PySem.Str.ofString "_law_spelled") = false := by rw [PT_eq]; kernel_rfl
theorem F__law_words : PT.F (PySem.Str.ofString "_law_words") = some fn__law_words := by rw [PT_eq]; kernel_rfl
theorem K__law_words : PT.K (PySem.Str.ofString "_law_words") = kd__law_words := by rw [PT_eq]; kernel_rfl
theorem N__law_words : fn__law_words.n = 5 := rfl
theorem R__law_words : PT.R (PySem.Str.ofString "_law_words") = false := by rw [PT_eq]; kernel_rfl
theorem F__law_constructors : PT.F (PySem.Str.ofString "_law_constructors") = some fn__law_constructors := by rw [PT_eq]; kernel_rfl
theorem K__law_constructors : PT.K (PySem.Str.ofString "_law_constructors") = kd__law_constructors := by rw [PT_eq]; kernel_rfl
theorem N__law_constructors : fn__law_constructors.n = 4 := rfl
theorem R__law_constructors : PT.R (PySem.Str.ofString "_law_constructors") = false := by rw [PT_eq]; kernel_rfl
theorem F__law_term : PT.F (PySem.Str.ofString "_law_term") = some fn__law_term := by rw [PT_eq]; kernel_rfl
theorem K__law_term : PT.K (PySem.Str.ofString "_law_term") = kd__law_term := by rw [PT_eq]; kernel_rfl
theorem N__law_term : fn__law_term.n = 6 := rfl
theorem R__law_term : PT.R (PySem.Str.ofString "_law_term") = false := by rw [PT_eq]; kernel_rfl
theorem F__law_occurrences : PT.F (PySem.Str.ofString "_law_occurrences") = some fn__law_occurrences := by rw [PT_eq]; kernel_rfl
theorem K__law_occurrences : PT.K (PySem.Str.ofString "_law_occurrences") = kd__law_occurrences := by rw [PT_eq]; kernel_rfl
theorem N__law_occurrences : fn__law_occurrences.n = 3 := rfl
theorem R__law_occurrences : PT.R (PySem.Str.ofString "_law_occurrences") = false := by rw [PT_eq]; kernel_rfl
theorem F__law_unlike : PT.F (PySem.Str.ofString "_law_unlike") = some fn__law_unlike := by rw [PT_eq]; kernel_rfl
theorem K__law_unlike : PT.K (PySem.Str.ofString "_law_unlike") = kd__law_unlike := by rw [PT_eq]; kernel_rfl
theorem N__law_unlike : fn__law_unlike.n = 3 := rfl
theorem R__law_unlike : PT.R (PySem.Str.ofString "_law_unlike") = false := by rw [PT_eq]; kernel_rfl
theorem F__law_numbers : PT.F (PySem.Str.ofString "_law_numbers") = some fn__law_numbers := by rw [PT_eq]; kernel_rfl
theorem K__law_numbers : PT.K (PySem.Str.ofString "_law_numbers") = kd__law_numbers := by rw [PT_eq]; kernel_rfl
theorem N__law_numbers : fn__law_numbers.n = 3 := rfl
theorem R__law_numbers : PT.R (PySem.Str.ofString "_law_numbers") = false := by rw [PT_eq]; kernel_rfl
theorem F__law_replace : PT.F (PySem.Str.ofString "_law_replace") = some fn__law_replace := by rw [PT_eq]; kernel_rfl
theorem K__law_replace : PT.K (PySem.Str.ofString "_law_replace") = kd__law_replace := by rw [PT_eq]; kernel_rfl
theorem N__law_replace : fn__law_replace.n = 3 := rfl
theorem R__law_replace : PT.R (PySem.Str.ofString "_law_replace") = false := by rw [PT_eq]; kernel_rfl
theorem F__law_renumbered : PT.F (PySem.Str.ofString "_law_renumbered") = some fn__law_renumbered := by rw [PT_eq]; kernel_rfl
theorem K__law_renumbered : PT.K (PySem.Str.ofString "_law_renumbered") = kd__law_renumbered := by rw [PT_eq]; kernel_rfl
theorem N__law_renumbered : fn__law_renumbered.n = 5 := rfl
theorem R__law_renumbered : PT.R (PySem.Str.ofString "_law_renumbered") = false := by rw [PT_eq]; kernel_rfl
theorem F__law_moved : PT.F (PySem.Str.ofString "_law_moved") = some fn__law_moved := by rw [PT_eq]; kernel_rfl
theorem K__law_moved : PT.K (PySem.Str.ofString "_law_moved") = kd__law_moved := by rw [PT_eq]; kernel_rfl
theorem N__law_moved : fn__law_moved.n = 3 := rfl
theorem R__law_moved : PT.R (PySem.Str.ofString "_law_moved") = false := by rw [PT_eq]; kernel_rfl
theorem F__law_taken : PT.F (PySem.Str.ofString "_law_taken") = some fn__law_taken := by rw [PT_eq]; kernel_rfl
theorem K__law_taken : PT.K (PySem.Str.ofString "_law_taken") = kd__law_taken := by rw [PT_eq]; kernel_rfl
theorem N__law_taken : fn__law_taken.n = 4 := rfl
theorem R__law_taken : PT.R (PySem.Str.ofString "_law_taken") = false := by rw [PT_eq]; kernel_rfl
theorem F__law_is_instance : PT.F (PySem.Str.ofString "_law_is_instance") = some fn__law_is_instance := by rw [PT_eq]; kernel_rfl
theorem K__law_is_instance : PT.K (PySem.Str.ofString "_law_is_instance") = kd__law_is_instance := by rw [PT_eq]; kernel_rfl
theorem N__law_is_instance : fn__law_is_instance.n = 2 := rfl
theorem R__law_is_instance : PT.R (PySem.Str.ofString "_law_is_instance") = false := by rw [PT_eq]; kernel_rfl
theorem F__law_alike : PT.F (PySem.Str.ofString "_law_alike") = some fn__law_alike := by rw [PT_eq]; kernel_rfl
theorem K__law_alike : PT.K (PySem.Str.ofString "_law_alike") = kd__law_alike := by rw [PT_eq]; kernel_rfl
theorem N__law_alike : fn__law_alike.n = 2 := rfl
theorem R__law_alike : PT.R (PySem.Str.ofString "_law_alike") = false := by rw [PT_eq]; kernel_rfl
theorem F__law_meet_of : PT.F (PySem.Str.ofString "_law_meet_of") = some fn__law_meet_of := by rw [PT_eq]; kernel_rfl
theorem K__law_meet_of : PT.K (PySem.Str.ofString "_law_meet_of") = kd__law_meet_of := by rw [PT_eq]; kernel_rfl
theorem N__law_meet_of : fn__law_meet_of.n = 2 := rfl
theorem R__law_meet_of : PT.R (PySem.Str.ofString "_law_meet_of") = false := by rw [PT_eq]; kernel_rfl
theorem F_law : PT.F (PySem.Str.ofString "law") = some fn_law := by rw [PT_eq]; kernel_rfl
theorem K_law : PT.K (PySem.Str.ofString "law") = kd_law := by rw [PT_eq]; kernel_rfl
theorem N_law : fn_law.n = 11 := rfl
theorem R_law : PT.R (PySem.Str.ofString "law") = false := by rw [PT_eq]; kernel_rfl
theorem wfT : Wf PT := wf_of (tF := tabF) (by rw [PT_eq]; rfl) (by rw [PT_eq]; decide +kernel)
noncomputable def F0 (x : PySem.Str) : Option Fn := PT.F x
noncomputable def G0 (x : PySem.Str) : Option PySem.Str := PT.G x
def defNames : List PySem.Str := [(PySem.Str.ofString "distinct"), (PySem.Str.ofString "occurrences"), (PySem.Str.ofString "substituted"), (PySem.Str.ofString "shifted"), (PySem.Str.ofString "above"), (PySem.Str.ofString "tidied"), (PySem.Str.ofString "write_term"), (PySem.Str.ofString "resolved"), (PySem.Str.ofString "occurs"), (PySem.Str.ofString "settled"), (PySem.Str.ofString "unifier"), (PySem.Str.ofString "match"), (PySem.Str.ofString "meet"), (PySem.Str.ofString "joined"), (PySem.Str.ofString "join"), (PySem.Str.ofString "same_up_to_names"), (PySem.Str.ofString "_law_same"), (PySem.Str.ofString "_law_is_integer"), (PySem.Str.ofString "_law_pool"), (PySem.Str.ofString "_law_spread"), (PySem.Str.ofString "_law_draw"), (PySem.Str.ofString "_law_pick"), (PySem.Str.ofString "_law_spelled"), (PySem.Str.ofString "_law_words"), (PySem.Str.ofString "_law_constructors"), (PySem.Str.ofString "_law_term"), (PySem.Str.ofString "_law_occurrences"), (PySem.Str.ofString "_law_unlike"), (PySem.Str.ofString "_law_numbers"), (PySem.Str.ofString "_law_replace"), (PySem.Str.ofString "_law_renumbered"), (PySem.Str.ofString "_law_moved"), (PySem.Str.ofString "_law_taken"), (PySem.Str.ofString "_law_is_instance"), (PySem.Str.ofString "_law_alike"), (PySem.Str.ofString "_law_meet_of"), (PySem.Str.ofString "law")]
theorem F0_distinct : F0 (PySem.Str.ofString "distinct") = some fn_distinct := F_distinct
theorem F0_occurrences : F0 (PySem.Str.ofString "occurrences") = some fn_occurrences := F_occurrences
theorem F0_substituted : F0 (PySem.Str.ofString "substituted") = some fn_substituted := F_substituted
theorem F0_shifted : F0 (PySem.Str.ofString "shifted") = some fn_shifted := F_shifted
theorem F0_above : F0 (PySem.Str.ofString "above") = some fn_above := F_above
theorem F0_tidied : F0 (PySem.Str.ofString "tidied") = some fn_tidied := F_tidied
theorem F0_write_term : F0 (PySem.Str.ofString "write_term") = some fn_write_term := F_write_term
theorem F0_resolved : F0 (PySem.Str.ofString "resolved") = some fn_resolved := F_resolved
theorem F0_occurs : F0 (PySem.Str.ofString "occurs") = some fn_occurs := F_occurs
theorem F0_settled : F0 (PySem.Str.ofString "settled") = some fn_settled := F_settled
theorem F0_unifier : F0 (PySem.Str.ofString "unifier") = some fn_unifier := F_unifier
theorem F0_match : F0 (PySem.Str.ofString "match") = some fn_match := F_match
theorem F0_meet : F0 (PySem.Str.ofString "meet") = some fn_meet := F_meet
theorem F0_joined : F0 (PySem.Str.ofString "joined") = some fn_joined := F_joined
theorem F0_join : F0 (PySem.Str.ofString "join") = some fn_join := F_join
theorem F0_same_up_to_names : F0 (PySem.Str.ofString "same_up_to_names") = some fn_same_up_to_names := F_same_up_to_names
theorem F0__law_same : F0 (PySem.Str.ofString "_law_same") = some fn__law_same := F__law_same
theorem F0__law_is_integer : F0 (PySem.Str.ofString "_law_is_integer") = some fn__law_is_integer := F__law_is_integer
theorem F0__law_pool : F0 (PySem.Str.ofString "_law_pool") = some fn__law_pool := F__law_pool
theorem F0__law_spread : F0 (PySem.Str.ofString "_law_spread") = some fn__law_spread := F__law_spread
theorem F0__law_draw : F0 (PySem.Str.ofString "_law_draw") = some fn__law_draw := F__law_draw
theorem F0__law_pick : F0 (PySem.Str.ofString "_law_pick") = some fn__law_pick := F__law_pick
theorem F0__law_spelled : F0 (PySem.Str.ofString "_law_spelled") = some fn__law_spelled := F__law_spelled
theorem F0__law_words : F0 (PySem.Str.ofString "_law_words") = some fn__law_words := F__law_words
theorem F0__law_constructors : F0 (PySem.Str.ofString "_law_constructors") = some fn__law_constructors := F__law_constructors
theorem F0__law_term : F0 (PySem.Str.ofString "_law_term") = some fn__law_term := F__law_term
theorem F0__law_occurrences : F0 (PySem.Str.ofString "_law_occurrences") = some fn__law_occurrences := F__law_occurrences
theorem F0__law_unlike : F0 (PySem.Str.ofString "_law_unlike") = some fn__law_unlike := F__law_unlike
theorem F0__law_numbers : F0 (PySem.Str.ofString "_law_numbers") = some fn__law_numbers := F__law_numbers
theorem F0__law_replace : F0 (PySem.Str.ofString "_law_replace") = some fn__law_replace := F__law_replace
theorem F0__law_renumbered : F0 (PySem.Str.ofString "_law_renumbered") = some fn__law_renumbered := F__law_renumbered
theorem F0__law_moved : F0 (PySem.Str.ofString "_law_moved") = some fn__law_moved := F__law_moved
theorem F0__law_taken : F0 (PySem.Str.ofString "_law_taken") = some fn__law_taken := F__law_taken
theorem F0__law_is_instance : F0 (PySem.Str.ofString "_law_is_instance") = some fn__law_is_instance := F__law_is_instance
theorem F0__law_alike : F0 (PySem.Str.ofString "_law_alike") = some fn__law_alike := F__law_alike
theorem F0__law_meet_of : F0 (PySem.Str.ofString "_law_meet_of") = some fn__law_meet_of := F__law_meet_of
theorem F0_law : F0 (PySem.Str.ofString "law") = some fn_law := F_law
theorem G0_mem {x z : PySem.Str} (h : G0 x = some z) : tabG.lookup x = some z := by
  unfold G0 at h
  rw [PT_eq] at h
  exact h
end Mp
section
namespace Mp
open PySem
def isLow (c : Nat) : Bool := decide (97 ≤ c) && decide (c ≤ 122)
theorem letters_cps : (PySem.Str.ofString "abcdefghijklmnopqrstuvwxyz").cps.toList = [97, 98, 99, 100, 101, 102, 103, 104, 105, 106, 107, 108, 109, 110, 111, 112, 113, 114, 115, 116, 117, 118, 119, 120, 121, 122] := by decide +kernel
def wordB (z : Str) : Bool := decide (1 ≤ z.length) && decide (z.length ≤ 12) && z.cps.toList.all isLow
def spellF : Nat → Nat → List Nat
  | 0, _ => []
  | f + 1, n => if n = 0 then [] else spellF f ((n - 1) / 26) ++ [97 + (n - 1) % 26]
theorem spellF_any : ∀ (f g n : Nat), n ≤ f → n ≤ g → spellF f n = spellF g n
  | 0, 0, _, _, _ => rfl
  | 0, g + 1, n, h, _ => by have : n = 0 := by omega
                            subst this; simp [spellF]
  | f + 1, 0, n, _, h => by have : n = 0 := by omega
                            subst this; simp [spellF]
  | f + 1, g + 1, n, h, h' => by
    unfold spellF
    by_cases e : n = 0
    · rw [if_pos e, if_pos e]
    · rw [if_neg e, if_neg e, spellF_any f g _ (by omega) (by omega)]
def spell (n : Nat) : List Nat := spellF n n
theorem spell_0 : spell 0 = [] := rfl
theorem spell_pos {n : Nat} (h : 0 < n) : spell n = spell ((n - 1) / 26) ++ [97 + (n - 1) % 26] := by
  obtain ⟨m, rfl⟩ : ∃ m, n = m + 1 := ⟨n - 1, by omega⟩
  show spellF (m + 1) (m + 1) = _
  unfold spellF
  rw [if_neg (by omega)]
  rw [spellF_any m ((m + 1 - 1) / 26) _ (by omega) (Nat.le_refl _)]; rfl
def unspell (l : List Nat) : Nat := l.foldl (fun a c => 26 * a + (c - 96)) 0
theorem unspell_spell (n : Nat) : unspell (spell n) = n := by
  induction n using Nat.strongRecOn with
  | _ n ih =>
    by_cases h : 0 < n
    · rw [spell_pos h]
      unfold unspell
      rw [List.foldl_append]
      have := ih ((n - 1) / 26) (by omega)
      unfold unspell at this
      rw [this]
      simp only [List.foldl_cons, List.foldl_nil]; omega
    · have : n = 0 := by omega
      subst this; rfl
def spB : Nat → Nat
  | 0 => 0
  | k + 1 => 26 * spB k + 26
theorem spell_len : ∀ (k n : Nat), n ≤ spB k → (spell n).length ≤ k
  | 0, n, h => by
    have : n = 0 := by simp only [spB] at h; omega
    subst this; simp [spell_0]
  | k + 1, n, h => by
    by_cases h0 : 0 < n
    · rw [spell_pos h0, List.length_append, List.length_singleton]
      simp only [spB] at h
      have := spell_len k ((n - 1) / 26) (by omega)
      omega
    · have : n = 0 := by omega
      subst this; simp [spell_0]
theorem spell_low (n : Nat) : (spell n).all isLow = true := by
  induction n using Nat.strongRecOn with
  | _ n ih =>
    by_cases h : 0 < n
    · rw [spell_pos h, List.all_append, ih ((n - 1) / 26) (by omega)]
      simp [isLow]; omega
    · have : n = 0 := by omega
      subst this; rfl
def spS (n : Nat) : Str := ⟨(spell n).toArray⟩
theorem spS_inj {m n : Nat} (h : spS m = spS n) : m = n := by
  unfold spS at h
  injection h with h
  have := congrArg Array.toList h
  simp only at this
  rw [← unspell_spell m, ← unspell_spell n, this]
theorem spB12 : spB 12 = 99246114928149462 := by decide
theorem spS_word {n : Nat} (h : 0 < n) (h' : n ≤ 99246114928149462) : wordB (spS n) = true := by
  have h1 := spell_len 12 n (by rw [spB12]; exact h')
  have h2 := spell_low n
  have h3 : 1 ≤ (spell n).length := by rw [spell_pos h]; simp
  unfold wordB
  have e : (spS n).length = (spell n).length := rfl
  rw [e, decide_eq_true h1, decide_eq_true h3]
  exact h2
theorem letter_at {i : Int} (h : 0 ≤ i) (h' : i < 26) : L2.atI (PySem.Str.ofString "abcdefghijklmnopqrstuvwxyz").cps.toList i = some (97 + i.toNat) := by
  rw [letters_cps, atI_of h]
  have : ∀ j, j < 26 → ([97, 98, 99, 100, 101, 102, 103, 104, 105, 106, 107, 108, 109, 110, 111, 112, 113, 114, 115, 116, 117, 118, 119, 120, 121, 122] : List Nat)[j]? = some (97 + j) := by decide
  exact this _ (by omega)
def cnt (l : List Int) (n : Int) : Nat := (l.filter fun x => decide (n ≤ x)).length
theorem cnt_lt {l : List Int} {n : Int} (h : n ∈ l) : cnt l (n + 1) < cnt l n := by
  unfold cnt
  induction l with
  | nil => cases h
  | cons x r ih =>
    have le : (r.filter fun x => decide (n + 1 ≤ x)).length ≤ (r.filter fun x => decide (n ≤ x)).length := by
      clear ih h
      induction r with
      | nil => simp
      | cons y r ih =>
        rw [List.filter_cons, List.filter_cons]
        by_cases e : n + 1 ≤ y
        · rw [if_pos (by simpa using e), if_pos (by simp; omega)]; simpa using ih
        · rw [if_neg (by simpa using e)]
          by_cases e2 : n ≤ y
          · rw [if_pos (by simpa using e2), List.length_cons]; omega
          · rw [if_neg (by simpa using e2)]; exact ih
    rw [List.filter_cons, List.filter_cons]
    rcases List.mem_cons.mp h with rfl | h
    · rw [if_neg (by simp; omega), if_pos (by simp), List.length_cons]; omega
    · have := ih h
      by_cases e : n + 1 ≤ x
      · rw [if_pos (by simpa using e), if_pos (by simp; omega), List.length_cons, List.length_cons]; omega
      · rw [if_neg (by simpa using e)]
        by_cases e2 : n ≤ x
        · rw [if_pos (by simpa using e2), List.length_cons]; omega
        · rw [if_neg (by simpa using e2)]; exact this
theorem cnt_le (l : List Int) (n : Int) : cnt l n ≤ l.length := List.length_filter_le ..
inductive Tm where
  | var (i : Int) | app (w : Str) (ts : List Tm)
  deriving Inhabited
mutual
def Tm.v : Tm → Vl
  | .var i => .int i
  | .app w ts => .tup (.str w :: Tm.vs ts)
def Tm.vs : List Tm → List Vl
  | [] => []
  | t :: ts => t.v :: Tm.vs ts
end
theorem Tm.vs_map : ∀ ts : List Tm, Tm.vs ts = ts.map Tm.v
  | [] => rfl
  | t :: ts => by rw [Tm.vs, Tm.vs_map ts]; rfl
/-- constructors as a value -/
def consV (c : List (Str × Int)) : Vl := .tup (c.map fun z => .tup [.str z.1, .int z.2])
mutual
def Tm.ok (c : List (Str × Int)) : Tm → Bool
  | .var i => decide (0 ≤ i)
  | .app w ts => decide (c.lookup w = some (ts.length : Int)) && Tm.oks c ts
def Tm.oks (c : List (Str × Int)) : List Tm → Bool
  | [] => true
  | t :: ts => t.ok c && Tm.oks c ts
end
theorem Tm.oks_all {c : List (Str × Int)} : ∀ ts : List Tm, Tm.oks c ts = ts.all (Tm.ok c)
  | [] => rfl
  | d :: ds => by rw [Tm.oks, Tm.oks_all ds]; rfl
mutual
def Tm.occ : Tm → List Int
  | .var i => [i]
  | .app _ ts => Tm.occs ts
def Tm.occs : List Tm → List Int
  | [] => []
  | t :: ts => t.occ ++ Tm.occs ts
end
theorem Tm.occs_flat : ∀ ts : List Tm, Tm.occs ts = ts.flatMap Tm.occ
  | [] => rfl
  | t :: ts => by rw [Tm.occs, Tm.occs_flat ts]; rfl
mutual
def Tm.ht : Tm → Nat
  | .var _ => 1
  | .app _ ts => 1 + Tm.hts ts
def Tm.hts : List Tm → Nat
  | [] => 0
  | t :: ts => max t.ht (Tm.hts ts)
end
theorem Tm.hts_le {n : Nat} : ∀ {ts : List Tm}, Tm.hts ts ≤ n ↔ ∀ t ∈ ts, t.ht ≤ n
  | [] => by simp [Tm.hts]
  | t :: ts => by
    have := Tm.hts_le (n := n) (ts := ts)
    simp only [Tm.hts, List.mem_cons, forall_eq_or_imp, ← this]; omega
mutual
def Tm.size : Tm → Nat
  | .var _ => 1
  | .app _ ts => 1 + Tm.sizes ts
def Tm.sizes : List Tm → Nat
  | [] => 0
  | t :: ts => t.size + Tm.sizes ts
end
theorem Tm.size_mem : ∀ {ts : List Tm} {t : Tm}, t ∈ ts → t.size ≤ Tm.sizes ts
  | x :: xs, t, h => by
    simp only [Tm.sizes]
    rcases List.mem_cons.mp h with rfl | h
    · omega
    · have := Tm.size_mem h; omega
theorem Tm.size_pos : ∀ t : Tm, 1 ≤ t.size
  | .var _ => by simp [Tm.size]
  | .app _ _ => by simp only [Tm.size]; omega
theorem Tm.sizes_len : ∀ ts : List Tm, ts.length ≤ Tm.sizes ts
  | [] => by simp
  | t :: ts => by have := Tm.sizes_len ts; have := t.size_pos; simp only [Tm.sizes, List.length_cons]; omega
mutual
theorem Tm.occ_len : ∀ t : Tm, t.occ.length ≤ t.size
  | .var _ => by simp [Tm.occ, Tm.size]
  | .app _ ts => by have := Tm.occs_len ts; simp only [Tm.occ, Tm.size]; omega
theorem Tm.occs_len : ∀ ts : List Tm, (Tm.occs ts).length ≤ Tm.sizes ts
  | [] => by simp [Tm.occs]
  | t :: ts => by have := Tm.occs_len ts; have := t.occ_len; simp only [Tm.occs, Tm.sizes, List.length_append]; omega
end
theorem Tm.occs_append (a b : List Tm) : Tm.occs (a ++ b) = Tm.occs a ++ Tm.occs b := by
  rw [Tm.occs_flat, Tm.occs_flat, Tm.occs_flat, List.flatMap_append]
theorem Tm.sizes_append : ∀ a b : List Tm, Tm.sizes (a ++ b) = Tm.sizes a + Tm.sizes b
  | [], b => by simp [Tm.sizes]
  | x :: a, b => by simp only [List.cons_append, Tm.sizes, Tm.sizes_append a b]; omega
/-- constructors in order -/
structure ConsOk (c : List (Str × Int)) : Prop where
  len : c.length ≤ 5
  two : 2 ≤ c.length
  nd : (c.map Prod.fst).Nodup
  wd : ∀ z ∈ c, wordB z.1 = true
  ar : ∀ z ∈ c, 0 ≤ z.2 ∧ z.2 ≤ 2
  zero : ∃ z ∈ c, z.2 = 0
theorem lookup_mem {c : List (Str × Int)} (h : (c.map Prod.fst).Nodup) {z : Str × Int} (hz : z ∈ c) : c.lookup z.1 = some z.2 := by
  induction c with
  | nil => cases hz
  | cons y r ih =>
    obtain ⟨y1, y2⟩ := y
    rw [List.map_cons, List.nodup_cons] at h
    rcases List.mem_cons.mp hz with rfl | hz
    · simp
    · rw [List.lookup_cons, beq_eq_false_iff_ne.mpr (fun e => h.1 (by have e : z.1 = y1 := e; show y1 ∈ _; rw [← e]; exact List.mem_map_of_mem (f := Prod.fst) hz))]
      exact ih h.2 hz
theorem mem_lookup {c : List (Str × Int)} {w : Str} {a : Int} (h : c.lookup w = some a) : (w, a) ∈ c := look_mem h
mutual
theorem Tm.size_le {c : List (Str × Int)} (hc : ∀ z ∈ c, z.2 ≤ 2) : ∀ {t : Tm}, t.ok c = true → t.size + 1 ≤ 2 ^ t.ht
  | .var _, _ => by simp [Tm.size, Tm.ht]
  | .app w ts, h => by
    simp only [Tm.ok, Bool.and_eq_true, decide_eq_true_eq] at h
    have h2 := Tm.sizes_le hc h.2
    have hl := hc _ (mem_lookup h.1)
    simp only [Tm.size, Tm.ht]
    have e : 2 ^ (1 + Tm.hts ts) = 2 * 2 ^ Tm.hts ts := by rw [Nat.pow_add]
    rw [e]
    have hlen : ts.length ≤ 2 := by simp only at hl; omega
    have h3 : ts.length * (2 ^ Tm.hts ts) ≤ 2 * (2 ^ Tm.hts ts) := Nat.mul_le_mul_right _ hlen
    have hp : 1 ≤ 2 ^ Tm.hts ts := Nat.one_le_two_pow
    cases ts with
    | nil => simp only [Tm.sizes]; omega
    | cons t r =>
      simp only [List.length_cons] at h2 h3 hlen
      have : r.length = 0 ∨ r.length = 1 := by omega
      rcases this with e | e <;> rw [e] at h2 h3 <;> omega
theorem Tm.sizes_le {c : List (Str × Int)} (hc : ∀ z ∈ c, z.2 ≤ 2) : ∀ {ts : List Tm}, Tm.oks c ts = true → Tm.sizes ts + ts.length ≤ ts.length * 2 ^ Tm.hts ts
  | [], _ => by simp [Tm.sizes]
  | t :: ts, h => by
    simp only [Tm.oks, Bool.and_eq_true] at h
    have h1 := Tm.size_le hc h.1
    have h2 := Tm.sizes_le hc h.2
    simp only [Tm.sizes, Tm.hts, List.length_cons]
    have a1 : 2 ^ t.ht ≤ 2 ^ max t.ht (Tm.hts ts) := Nat.pow_le_pow_right (by decide) (Nat.le_max_left ..)
    have a2 : 2 ^ Tm.hts ts ≤ 2 ^ max t.ht (Tm.hts ts) := Nat.pow_le_pow_right (by decide) (Nat.le_max_right ..)
    have a3 : ts.length * 2 ^ Tm.hts ts ≤ ts.length * 2 ^ max t.ht (Tm.hts ts) := Nat.mul_le_mul_left _ a2
    rw [Nat.add_mul, Nat.one_mul]
    omega
end
theorem rg_len {n : Nat} : (rgVl 0 (n : Int)).length = n := by unfold rgVl; simp
theorem rg_mem {n : Nat} {x : Vl} (h : x ∈ rgVl 0 (n : Int)) : ∃ k : Nat, k < n ∧ x = .int k := by
  unfold rgVl at h
  obtain ⟨k, hk, rfl⟩ := List.mem_map.mp h
  exact ⟨k, by simpa using hk, by rw [Int.zero_add]⟩
theorem rg_at {n : Nat} {pre post : List Vl} {x : Vl} (h : rgVl 0 (n : Int) = pre ++ x :: post) : pre.length < n ∧ x = .int pre.length := by
  have hl := congrArg List.length h
  rw [rg_len, List.length_append, List.length_cons] at hl
  have e : (rgVl 0 (n : Int))[pre.length]? = some x := by rw [h, List.getElem?_append_right (Nat.le_refl _), Nat.sub_self]; rfl
  refine ⟨by omega, ?_⟩
  unfold rgVl at e
  rw [List.getElem?_map, List.getElem?_range (by omega)] at e
  injection e with e
  rw [← e]
  show Vl.int (0 + _) = _
  rw [Int.zero_add]
theorem small_len {n : Nat} (h : n ≤ sizeLine) : small (n : Int) := by
  have : sizeLine = 16777216 := by decide
  unfold small; omega
theorem range_zip {α β γ : Type} [Inhabited α] [Inhabited β] (f : α → β → γ) (as : List α) (bs : List β) (h : as.length = bs.length) : (List.range bs.length).map (fun k => f (as.getD k default) (bs.getD k default)) = (as.zip bs).map fun q => f q.1 q.2 := by
  refine List.ext_getElem (by simp [h]) fun i h1 h2 => ?_
  simp only [List.length_map, List.length_range] at h1
  simp only [List.getElem_map, List.getElem_range, List.getElem_zip]
  rw [List.getD_eq_getElem?_getD, List.getD_eq_getElem?_getD, List.getElem?_eq_getElem h1, List.getElem?_eq_getElem (by omega : i < as.length)]
  rfl
/-- whole numbers among whole numbers -/
theorem vIn_ints {n : Int} {ns : List Int} : vIn (.int n) (.lst (ns.map .int)) = some (decide (n ∈ ns)) := by
  show vInL _ _ = _
  unfold vInL
  have h1 : (ns.map Vl.int).all Vl.flat = true := by rw [List.all_map, List.all_eq_true]; intro _ _; rfl
  rw [h1]
  show some (((ns.map Vl.int).any fun y => L2.eqV y.toV (Vl.int n).toV)) = _
  congr 1
  rw [List.any_map, Bool.eq_iff_iff, List.any_eq_true, decide_eq_true_eq]
  constructor
  · rintro ⟨x, hx, e⟩
    have : x = n := by simpa [L2.eqV, Vl.toV, Function.comp] using e
    exact this ▸ hx
  · intro h
    exact ⟨n, h, by simp [L2.eqV, Vl.toV, Function.comp]⟩

theorem cut1 {α : Type} {x : α} {u : List α} : cutD (x :: u) (some 1) none = u := by
  simp [cutD, HT.sIx]
theorem dedup_len (ns : List Int) : (dedup ns).length ≤ ns.length := by
  unfold dedup
  suffices h : ∀ (ns acc : List Int), (ns.foldl (fun acc x => if x ∈ acc then acc else acc ++ [x]) acc).length ≤ acc.length + ns.length by simpa using h ns []
  intro ns
  induction ns with
  | nil => simp
  | cons x r ih =>
    intro acc
    rw [List.foldl_cons, List.length_cons]
    refine Nat.le_trans (ih _) ?_
    split
    · omega
    · rw [List.length_append, List.length_singleton]; omega
theorem vs_split {ts : List Tm} {pre post : List Vl} {x : Vl} (h : Tm.vs ts = pre ++ x :: post) : ∃ us t r, ts = us ++ t :: r ∧ pre = Tm.vs us ∧ x = t.v := by
  rw [Tm.vs_map] at h
  obtain ⟨us, q, e1, e2, e3⟩ := List.map_eq_append_iff.mp h
  obtain ⟨t, r, e4, e5, e6⟩ := List.map_eq_cons_iff.mp e3
  subst e4
  exact ⟨us, t, r, e1, by rw [Tm.vs_map, e2], e5.symm⟩
theorem vs_len (ts : List Tm) : (Tm.vs ts).length = ts.length := by rw [Tm.vs_map, List.length_map]
mutual
/-- plain data -/
def plain : Vl → Bool
  | .non | .bl _ | .int _ | .str _ => true
  | .tup xs => plains xs && decide (xs.length ≤ 2 ^ 20)
  | .lst xs => plains xs && decide (xs.length ≤ 2 ^ 20)
  | _ => false
def plains : List Vl → Bool
  | [] => true
  | x :: xs => plain x && plains xs
end
theorem plains_all : ∀ xs : List Vl, plains xs = xs.all plain
  | [] => rfl
  | x :: xs => by rw [plains, plains_all xs]; rfl
mutual
def vdep : Vl → Nat
  | .tup xs => 1 + vdeps xs
  | .lst xs => 1 + vdeps xs
  | _ => 0
def vdeps : List Vl → Nat
  | [] => 0
  | x :: xs => max (vdep x) (vdeps xs)
end
theorem vdeps_mem : ∀ {xs : List Vl} {x : Vl}, x ∈ xs → vdep x ≤ vdeps xs
  | y :: ys, x, h => by
    rw [vdeps]
    rcases List.mem_cons.mp h with rfl | h
    · omega
    · have := vdeps_mem h; omega
def dK {α : Type} (g : α → Vl) (l : List (Int × α)) : List (L2.Key × Vl) := l.map fun p => (Sum.inl p.1, g p.2)
theorem getV_dK {α : Type} {g : α → Vl} : ∀ {l : List (Int × α)} {i : Int}, getV (dK g l) (.inl i) = (l.lookup i).map g
  | [], i => rfl
  | (a, x) :: l, i => by
    rw [List.lookup_cons]
    unfold getV dK
    rw [List.map_cons, List.find?_cons]
    by_cases h : i = a
    · subst h
      simp
    · have : decide ((Sum.inl a : L2.Key) = Sum.inl i) = false := decide_eq_false fun e => h (Sum.inl.inj e).symm
      rw [this, beq_eq_false_iff_ne.mpr h]
      exact getV_dK (l := l)
theorem putV_dK {α : Type} {g : α → Vl} {l : List (Int × α)} {i : Int} {x : α} (h : i ∉ l.map Prod.fst) : putV (dK g l) (.inl i) (g x) = dK g (l ++ [(i, x)]) := by
  unfold putV
  rw [if_neg ?_]
  · unfold dK; rw [List.map_append]; rfl
  · intro e
    rw [List.any_eq_true] at e
    obtain ⟨kv, hm, he⟩ := e
    obtain ⟨p, hp, rfl⟩ := List.mem_map.mp hm
    have := Sum.inl.inj (of_decide_eq_true he)
    exact h (this ▸ List.mem_map_of_mem hp)
theorem dK_len {α : Type} {g : α → Vl} {l : List (Int × α)} : (dK g l).length = l.length := List.length_map ..
mutual
def Tm.sub (f : Int → Tm) : Tm → Tm
  | .var i => f i
  | .app w ts => .app w (Tm.subs f ts)
def Tm.subs (f : Int → Tm) : List Tm → List Tm
  | [] => []
  | t :: ts => t.sub f :: Tm.subs f ts
end
theorem Tm.subs_map {f : Int → Tm} : ∀ ts : List Tm, Tm.subs f ts = ts.map (Tm.sub f)
  | [] => rfl
  | t :: ts => by rw [Tm.subs, Tm.subs_map ts]; rfl
mutual
theorem Tm.sub_congr {f g : Int → Tm} : ∀ {t : Tm}, (∀ i ∈ t.occ, f i = g i) → t.sub f = t.sub g
  | .var i, h => h i (by simp [Tm.occ])
  | .app w ts, h => by rw [Tm.sub, Tm.sub, Tm.subs_congr h]
theorem Tm.subs_congr {f g : Int → Tm} : ∀ {ts : List Tm}, (∀ i ∈ Tm.occs ts, f i = g i) → Tm.subs f ts = Tm.subs g ts
  | [], _ => rfl
  | t :: ts, h => by
    rw [Tm.subs, Tm.subs, Tm.sub_congr fun i hi => h i (by rw [Tm.occs]; exact List.mem_append_left _ hi), Tm.subs_congr fun i hi => h i (by rw [Tm.occs]; exact List.mem_append_right _ hi)]
end
mutual
theorem Tm.sub_sub {f g : Int → Tm} : ∀ {t : Tm}, (t.sub f).sub g = t.sub fun i => (f i).sub g
  | .var i => rfl
  | .app w ts => by rw [Tm.sub, Tm.sub, Tm.sub, Tm.subs_subs]
theorem Tm.subs_subs {f g : Int → Tm} : ∀ {ts : List Tm}, Tm.subs g (Tm.subs f ts) = Tm.subs (fun i => (f i).sub g) ts
  | [] => rfl
  | t :: ts => by rw [Tm.subs, Tm.subs, Tm.subs, Tm.sub_sub, Tm.subs_subs]
end
mutual
theorem Tm.occ_sub {f : Int → Tm} : ∀ {t : Tm}, (t.sub f).occ = t.occ.flatMap fun i => (f i).occ
  | .var i => by rw [Tm.sub, Tm.occ]; simp
  | .app w ts => by rw [Tm.sub, Tm.occ, Tm.occ, Tm.occs_sub]
theorem Tm.occs_sub {f : Int → Tm} : ∀ {ts : List Tm}, Tm.occs (Tm.subs f ts) = (Tm.occs ts).flatMap fun i => (f i).occ
  | [] => rfl
  | t :: ts => by rw [Tm.subs, Tm.occs, Tm.occs, List.flatMap_append, Tm.occ_sub, Tm.occs_sub]
end
/-- other names -/
def vr (f : Int → Int) (i : Int) : Tm := .var (f i)
mutual
theorem Tm.size_rn {f : Int → Int} : ∀ {t : Tm}, (t.sub (vr f)).size = t.size
  | .var i => rfl
  | .app w ts => by rw [Tm.sub, Tm.size, Tm.size, Tm.sizes_rn]
theorem Tm.sizes_rn {f : Int → Int} : ∀ {ts : List Tm}, Tm.sizes (Tm.subs (vr f) ts) = Tm.sizes ts
  | [] => rfl
  | t :: ts => by rw [Tm.subs, Tm.sizes, Tm.sizes, Tm.size_rn, Tm.sizes_rn]
end
mutual
theorem Tm.ht_rn {f : Int → Int} : ∀ {t : Tm}, (t.sub (vr f)).ht = t.ht
  | .var i => rfl
  | .app w ts => by rw [Tm.sub, Tm.ht, Tm.ht, Tm.hts_rn]
theorem Tm.hts_rn {f : Int → Int} : ∀ {ts : List Tm}, Tm.hts (Tm.subs (vr f) ts) = Tm.hts ts
  | [] => rfl
  | t :: ts => by rw [Tm.subs, Tm.hts, Tm.hts, Tm.ht_rn, Tm.hts_rn]
end
theorem occs_rn {f : Int → Int} {ts : List Tm} : Tm.occs (Tm.subs (vr f) ts) = (Tm.occs ts).map f := by
  rw [Tm.occs_sub]
  generalize Tm.occs ts = l
  induction l with
  | nil => rfl
  | cons a l ih => rw [List.flatMap_cons, List.map_cons, ih]; rfl
def sb (l : List (Int × Tm)) (i : Int) : Tm := (l.lookup i).getD (.var i)
/-- new names, by place -/
def nmF (seen : List Int) : List (Int × Tm) := seen.zipIdx.map fun p => (p.1, .var (p.2 : Int))
def tidy (ts : List Tm) : List Tm := Tm.subs (sb (nmF (dedup (Tm.occs ts)))) ts
theorem dedup_mem {l : List Int} {x : Int} : x ∈ dedup l ↔ x ∈ l := by
  unfold dedup
  suffices h : ∀ (l acc : List Int), x ∈ l.foldl (fun a x => if x ∈ a then a else a ++ [x]) acc ↔ x ∈ acc ∨ x ∈ l by simpa using h l []
  intro l
  induction l with
  | nil => intro acc; simp
  | cons y l ih =>
    intro acc
    rw [List.foldl_cons, ih]
    by_cases h : y ∈ acc
    · rw [if_pos h, List.mem_cons]
      constructor
      · rintro (h | h)
        · exact .inl h
        · exact .inr (.inr h)
      · rintro (h | e | h)
        · exact .inl h
        · exact .inl (e ▸ h)
        · exact .inr h
    · rw [if_neg h, List.mem_append, List.mem_singleton, List.mem_cons]
      constructor
      · rintro ((h | h) | h)
        · exact .inl h
        · exact .inr (.inl h)
        · exact .inr (.inr h)
      · rintro (h | h | h)
        · exact .inl (.inl h)
        · exact .inl (.inr h)
        · exact .inr h
theorem dedup_nodup (l : List Int) : (dedup l).Nodup := by
  unfold dedup
  suffices h : ∀ (l acc : List Int), acc.Nodup → (l.foldl (fun a x => if x ∈ a then a else a ++ [x]) acc).Nodup from h l [] (by simp)
  intro l
  induction l with
  | nil => intro acc h; exact h
  | cons y l ih =>
    intro acc h
    rw [List.foldl_cons]
    refine ih _ ?_
    by_cases e : y ∈ acc
    · rw [if_pos e]; exact h
    · rw [if_neg e, List.nodup_append]
      exact ⟨h, by simp, fun a ha b hb c => by simp at hb; subst hb; subst c; exact e ha⟩
theorem dedup_map {f : Int → Int} {l : List Int} (inj : ∀ x ∈ l, ∀ y ∈ l, f x = f y → x = y) : dedup (l.map f) = (dedup l).map f := by
  unfold dedup
  suffices h : ∀ (m acc : List Int), (∀ x ∈ acc ++ m, x ∈ l) → (m.map f).foldl (fun a x => if x ∈ a then a else a ++ [x]) (acc.map f) = (m.foldl (fun a x => if x ∈ a then a else a ++ [x]) acc).map f from h l [] (by simp)
  intro m
  induction m with
  | nil => intro acc _; rfl
  | cons y m ih =>
    intro acc h
    rw [List.map_cons, List.foldl_cons, List.foldl_cons]
    have e : f y ∈ acc.map f ↔ y ∈ acc := by
      constructor
      · intro hm
        obtain ⟨z, hz, e⟩ := List.mem_map.mp hm
        have := inj z (h z (List.mem_append_left _ hz)) y (h y (by simp)) e
        exact this ▸ hz
      · exact fun hm => List.mem_map_of_mem hm
    by_cases c : y ∈ acc
    · rw [if_pos c, if_pos (e.mpr c)]
      exact ih acc fun x hx => h x (by rcases List.mem_append.mp hx with a | a <;> simp [a])
    · rw [if_neg c, if_neg fun z => c (e.mp z), show acc.map f ++ [f y] = (acc ++ [y]).map f by simp]
      exact ih (acc ++ [y]) fun x hx => h x (by simpa using hx)
theorem nmF_lookup {x : Int} : ∀ {seen : List Int} {k : Nat}, (seen.zipIdx k |>.map fun p => (p.1, Tm.var (p.2 : Int))).lookup x = if x ∈ seen then some (.var ((k + seen.idxOf x : Nat) : Int)) else none
  | [], k => rfl
  | y :: seen, k => by
    rw [List.zipIdx_cons, List.map_cons, List.lookup_cons]
    by_cases h : x = y
    · subst h; simp
    · rw [beq_eq_false_iff_ne.mpr h]
      show List.lookup x _ = _
      rw [nmF_lookup (seen := seen) (k := k + 1)]
      have h' : ¬ (y == x) = true := by simpa using Ne.symm h
      by_cases hm : x ∈ seen
      · rw [if_pos hm, if_pos (List.mem_cons_of_mem _ hm), List.idxOf_cons]
        rw [show (y == x) = false by simpa using Ne.symm h]
        simp only [cond_false]
        congr 3; omega
      · rw [if_neg hm, if_neg (by simp [h, hm])]
theorem sb_nm {seen : List Int} {x : Int} (h : x ∈ seen) : sb (nmF seen) x = .var (seen.idxOf x : Nat) := by
  unfold sb nmF
  rw [nmF_lookup (k := 0), if_pos h]
  simp
theorem idx_map {f : Int → Int} {x : Int} : ∀ {l : List Int}, (∀ a ∈ l, f a = f x → a = x) → (l.map f).idxOf (f x) = l.idxOf x
  | [], _ => rfl
  | y :: l, h => by
    rw [List.map_cons, List.idxOf_cons, List.idxOf_cons]
    by_cases e : y = x
    · subst e; simp
    · rw [show (y == x) = false by simpa using e, show (f y == f x) = false by simpa using fun c => e (h y (by simp) c)]
      simp only [cond_false]
      rw [idx_map fun a ha => h a (List.mem_cons_of_mem _ ha)]
/-- the same for every renaming that keeps apart -/
theorem tidy_rn {f : Int → Int} {ts : List Tm} (inj : ∀ x ∈ Tm.occs ts, ∀ y ∈ Tm.occs ts, f x = f y → x = y) : tidy (Tm.subs (vr f) ts) = tidy ts := by
  unfold tidy
  rw [occs_rn, dedup_map inj, Tm.subs_subs]
  refine Tm.subs_congr fun i hi => ?_
  have hd := dedup_mem.mpr hi
  show sb (nmF _) (f i) = _
  rw [sb_nm (List.mem_map_of_mem hd), sb_nm hd, idx_map]
  exact fun a ha e => inj a (dedup_mem.mp ha) i hi e
theorem tidy_is {ts : List Tm} : tidy ts = Tm.subs (vr fun i => ((dedup (Tm.occs ts)).idxOf i : Nat)) ts :=
  Tm.subs_congr fun i hi => sb_nm (dedup_mem.mpr hi)
mutual
theorem Tm.plain : ∀ {t : Tm}, t.size ≤ 2 ^ 20 → Mp.plain t.v = true
  | .var i, _ => rfl
  | .app w ts, h => by
    rw [Tm.size] at h
    have hl := Tm.sizes_len ts
    have := Tm.plains (ts := ts) (by omega)
    simp only [Tm.v, Mp.plain, Mp.plains, Bool.and_eq_true, decide_eq_true_eq, Bool.true_and]
    exact ⟨this, by rw [List.length_cons, vs_len]; omega⟩
theorem Tm.plains : ∀ {ts : List Tm}, Tm.sizes ts ≤ 2 ^ 20 → Mp.plains (Tm.vs ts) = true
  | [], _ => rfl
  | t :: ts, h => by
    rw [Tm.sizes] at h
    rw [Tm.vs, Mp.plains, Tm.plain (t := t) (by omega), Tm.plains (ts := ts) (by omega)]; rfl
end
mutual
theorem Tm.dep : ∀ {t : Tm}, vdep t.v ≤ t.ht
  | .var i => Nat.zero_le _
  | .app w ts => by
    have := Tm.deps (ts := ts)
    rw [Tm.v, vdep, vdeps, Tm.ht]
    show 1 + max 0 _ ≤ _
    omega
theorem Tm.deps : ∀ {ts : List Tm}, vdeps (Tm.vs ts) ≤ Tm.hts ts
  | [] => Nat.le_refl _
  | t :: ts => by
    have h1 := Tm.dep (t := t)
    have h2 := Tm.deps (ts := ts)
    rw [Tm.vs, vdeps, Tm.hts]; omega
end
/-- a dict comprehension that changes nothing, its keys apart -/
theorem ev_dcOf {α β : Type} {el : Vl → Env → (Option (Vl × Vl) → Env → Option Rt) → Option Rt} {items : List Vl} {env : Env} {K0 : List (L2.Key × Vl) → Env → Option Rt} {Q : Rt → Prop} {xs : List α} (v : α → Vl) (g : β → Vl) (kf : α → Int × β) (he : items = xs.map v) (hl : xs.length ≤ sizeLine)
    (nd : ((xs.map kf).map Prod.fst).Nodup) (h : ∀ a ∈ xs, ∀ K, el (v a) env K = K (some (.int (kf a).1, g (kf a).2)) env) (q : Ev (K0 (dK g (xs.map kf)) env) Q) : Ev (pdc el items [] env K0) Q := by
  subst he
  suffices w : ∀ (xs : List α) (acc : List (Int × β)), ((acc ++ xs.map kf).map Prod.fst).Nodup → (∀ a ∈ xs, ∀ K, el (v a) env K = K (some (.int (kf a).1, g (kf a).2)) env) → acc.length + xs.length ≤ sizeLine → pdc el (xs.map v) (dK g acc) env K0 = K0 (dK g (acc ++ xs.map kf)) env by
    have := w xs [] nd h (by rw [List.length_nil]; omega)
    rw [show pdc el (xs.map v) [] env K0 = _ from this]; exact q
  intro xs
  induction xs with
  | nil => intro acc _ _ _; rw [List.map_nil, pdc, List.map_nil, List.append_nil]
  | cons x xs ih =>
    intro acc nd h hl
    rw [List.length_cons] at hl
    rw [List.map_cons, pdc, h x (List.mem_cons_self ..)]
    show gd ((dK g acc).length < sizeLine) (pdc el (xs.map v) (putV (dK g acc) (.inl (kf x).1) (g (kf x).2)) env K0) = _
    have nn : (kf x).1 ∉ acc.map Prod.fst := by
      rw [List.map_append, List.nodup_append] at nd
      exact fun z => nd.2.2 _ z _ (by simp) rfl
    have e0 : acc ++ List.map kf (x :: xs) = (acc ++ [kf x]) ++ xs.map kf := by rw [List.map_cons, List.append_assoc]; rfl
    rw [gd_pos (by rw [dK_len]; omega), putV_dK nn, e0]
    exact ih (acc ++ [kf x]) (by rw [← e0]; exact nd) (fun y hy => h y (List.mem_cons_of_mem _ hy)) (by rw [List.length_append, List.length_singleton]; omega)
theorem nmF_range {seen : List Int} : nmF seen = (List.range seen.length).map fun k => (seen.getD k default, Tm.var (k : Int)) := by
  unfold nmF
  refine List.ext_getElem (by simp) fun i h1 h2 => ?_
  simp only [List.length_map, List.length_zipIdx] at h1
  simp [List.getD_eq_getElem?_getD, List.getElem?_eq_getElem h1]
theorem nmF_keys {seen : List Int} : (nmF seen).map Prod.fst = seen := by
  unfold nmF
  rw [List.map_map]
  refine List.ext_getElem (by simp) fun i h1 h2 => ?_
  simp
theorem nmF_len {seen : List Int} : (nmF seen).length = seen.length := by unfold nmF; simp
theorem nmF_snoc {seen : List Int} {x : Int} : nmF (seen ++ [x]) = nmF seen ++ [(x, .var seen.length)] := by
  unfold nmF
  rw [List.zipIdx_append, List.map_append]
  simp
theorem v_setd {α : Type} {g : α → Vl} {l : List (Int × α)} {i : Int} {x : α} (h : i ∉ l.map Prod.fst) (hl : l.length < sizeLine) : vSet (.dic (dK g l)) (.int i) (g x) = some (.dic (dK g (l ++ [(i, x)]))) := by
  show gd _ _ = _
  rw [gd_pos (by rw [dK_len]; exact hl), putV_dK h]
theorem v_ixd {α : Type} {g : α → Vl} {l : List (Int × α)} {i : Int} : vIx (.dic (dK g l)) (.int i) = (l.lookup i).map g := by
  show (some (getV (dK g l) (.inl i))).join = _
  rw [getV_dK]; rfl
theorem v_ix0T {w : Str} {ts : List Tm} : vIx (Tm.app w ts).v (.int 0) = some (.str w) := v_ixt (by decide) rfl

structure Mk where
  w : Str
  f : Str
  t : Tm
  args : List (Str × Tm)
  deriving Inhabited
def kiV (p : Str × Tm) : Vl := .tup [.str p.1, p.2.v]
def Mk.v (m : Mk) : Vl := .tup [.str m.w, .str m.f, m.t.v, .tup (m.args.map kiV)]
structure Sg where
  c : List (Str × Int)
  fs : List Str
  ms : List Mk
  deriving Inhabited
def fsV (fs : List Str) : Vl := .tup (fs.map .str)
def Sg.v (s : Sg) : Vl := .tup [consV s.c, fsV s.fs, .tup (s.ms.map Mk.v)]
mutual
def Tm.rw (f : Str → Str) : Tm → Tm
  | .var i => .var i
  | .app w ts => .app (f w) (Tm.rws f ts)
def Tm.rws (f : Str → Str) : List Tm → List Tm
  | [] => []
  | t :: ts => t.rw f :: Tm.rws f ts
end
def Mk.rw (f : Str → Str) (m : Mk) : Mk := ⟨f m.w, f m.f, m.t.rw f, m.args.map fun a => (f a.1, a.2.rw f)⟩
def Sg.rw (f : Str → Str) (s : Sg) : Sg := ⟨s.c.map fun z => (f z.1, z.2), s.fs.map f, s.ms.map (Mk.rw f)⟩
def Tm.isV : Tm → Bool
  | .var _ => true
  | _ => false
def Tm.flatB : Tm → Bool
  | .var _ => true
  | .app _ ts => ts.all Tm.isV
def upto (n : Nat) : List Int := (List.range n).map fun (k : Nat) => (k : Int)
def Mk.ts (m : Mk) : List Tm := m.t :: m.args.map (·.2)
def mkB (c : List (Str × Int)) (fs : List Str) (m : Mk) : Bool :=
  decide (m.f ∈ fs) && m.t.ok c && m.args.all (fun a => decide (a.1 ∈ fs) && a.2.ok c && decide (a.2.size ≤ 6)) && decide (m.t.size ≤ 3) && decide (m.args.length ≤ 3) &&
  decide (dedup (Tm.occs m.ts) = upto (dedup (Tm.occs m.ts)).length) && decide ((dedup (Tm.occs m.ts)).length ≤ 4) && m.t.flatB && decide m.t.occ.Nodup
def consB (c : List (Str × Int)) : Bool := decide (c.length ≤ 5) && decide (2 ≤ c.length) && decide (c.map Prod.fst).Nodup && c.all (fun z => decide (0 ≤ z.2) && decide (z.2 ≤ 2)) && c.any (fun z => decide (z.2 = 0))
def Sg.okB (s : Sg) : Bool := consB s.c && decide (1 ≤ s.fs.length) && decide (s.fs.length ≤ 4) && decide s.fs.Nodup && s.ms.all (mkB s.c s.fs) && decide (s.ms.map Mk.w).Nodup && decide (s.ms.length ≤ 8)
/-- the words are words -/
def Sg.wdB (s : Sg) : Bool := s.c.all (fun z => wordB z.1) && s.fs.all wordB && s.ms.all (fun m => wordB m.w)
structure SgOk (s : Sg) : Prop where
  cons : ConsOk s.c
  f1 : 1 ≤ s.fs.length
  f4 : s.fs.length ≤ 4
  fn : s.fs.Nodup
  fw : ∀ w ∈ s.fs, wordB w = true
  mks : ∀ m ∈ s.ms, mkB s.c s.fs m = true
  mw : ∀ m ∈ s.ms, wordB m.w = true
  mn : (s.ms.map Mk.w).Nodup
  m8 : s.ms.length ≤ 8
theorem SgOk.of {s : Sg} (h : s.okB = true) (w : s.wdB = true) : SgOk s := by
  simp only [Sg.okB, Sg.wdB, consB, Bool.and_eq_true, decide_eq_true_eq, List.all_eq_true, List.any_eq_true] at h w
  obtain ⟨⟨⟨⟨⟨⟨⟨⟨⟨⟨c5, c2⟩, cn⟩, ca⟩, c0⟩, f1⟩, f4⟩, fn⟩, mk⟩, mn⟩, m8⟩ := h
  obtain ⟨⟨wc, wf⟩, wm⟩ := w
  exact ⟨⟨c5, c2, cn, wc, ca, c0⟩, f1, f4, fn, wf, mk, wm, mn, m8⟩
theorem nodup_map {α β : Type} {f : α → β} {l : List α} (inj : ∀ x ∈ l, ∀ y ∈ l, f x = f y → x = y) (h : l.Nodup) : (l.map f).Nodup := by
  rw [List.nodup_iff_pairwise_ne, List.pairwise_map]
  rw [List.nodup_iff_pairwise_ne] at h
  exact h.imp_of_mem fun {a b} ha hb ne e => ne (inj a ha b hb e)
theorem upto_len (n : Nat) : (upto n).length = n := by unfold upto; simp
theorem upto_mem {n : Nat} {i : Int} : i ∈ upto n ↔ 0 ≤ i ∧ i < n := by
  unfold upto
  rw [List.mem_map]
  constructor
  · rintro ⟨k, hk, rfl⟩
    have := List.mem_range.mp hk
    omega
  · rintro ⟨h0, h1⟩
    exact ⟨i.toNat, List.mem_range.mpr (by omega), by omega⟩
theorem dedup_self : ∀ {l : List Int}, l.Nodup → dedup l = l := by
  intro l h
  unfold dedup
  suffices g : ∀ (l acc : List Int), (acc ++ l).Nodup → l.foldl (fun a x => if x ∈ a then a else a ++ [x]) acc = acc ++ l by simpa using g l [] (by simpa using h)
  intro l
  induction l with
  | nil => intro acc _; simp
  | cons x l ih =>
    intro acc h
    rw [List.foldl_cons, if_neg ?_, ih (acc ++ [x]) (by simpa using h)]
    · simp
    · intro hx
      rw [List.nodup_append] at h
      exact h.2.2 x hx x (by simp) rfl
theorem idx_upto : ∀ {l : List Int}, l.Nodup → l.map (fun i => ((l.idxOf i : Nat) : Int)) = upto l.length := by
  intro l h
  refine List.ext_getElem (by rw [List.length_map, upto_len]) fun i h1 h2 => ?_
  rw [List.length_map] at h1
  simp only [List.getElem_map, upto, List.getElem_range]
  have := List.idxOf_lt_length_of_mem (List.getElem_mem h1)
  have e := List.getElem_idxOf this
  congr 1
  rcases Nat.lt_trichotomy (l.idxOf l[i]) i with g | g | g
  · exact absurd e (List.pairwise_iff_getElem.mp h _ _ this h1 g)
  · exact g
  · exact absurd e.symm (List.pairwise_iff_getElem.mp h _ _ h1 this g)
/-- tidy terms have the first numbers -/
theorem tidy_num (ts : List Tm) : dedup (Tm.occs (tidy ts)) = upto (dedup (Tm.occs ts)).length := by
  rw [tidy_is, occs_rn, dedup_map, idx_upto (dedup_nodup _)]
  intro x hx y hy e
  have hx := dedup_mem.mpr hx
  have hy := dedup_mem.mpr hy
  have e : (dedup (Tm.occs ts)).idxOf x = (dedup (Tm.occs ts)).idxOf y := by exact_mod_cast e
  have h1 := List.idxOf_lt_length_of_mem hx
  have h2 := List.idxOf_lt_length_of_mem hy
  have g1 := List.getElem_idxOf h1
  have g2 := List.getElem_idxOf h2
  rw [← g1, ← g2]
  congr 1
mutual
theorem Tm.ok_rn {f : Int → Nat} {c : List (Str × Int)} : ∀ {t : Tm}, t.ok c = true → (t.sub (vr fun i => (f i : Int))).ok c = true
  | .var i, _ => by simp only [Tm.sub, vr, Tm.ok]; exact decide_eq_true (by omega)
  | .app w ts, h => by
    simp only [Tm.ok, Bool.and_eq_true, decide_eq_true_eq] at h
    simp only [Tm.sub, Tm.ok, Bool.and_eq_true, decide_eq_true_eq]
    exact ⟨by rw [Tm.subs_map, List.length_map]; exact h.1, Tm.oks_rn h.2⟩
theorem Tm.oks_rn {f : Int → Nat} {c : List (Str × Int)} : ∀ {ts : List Tm}, Tm.oks c ts = true → Tm.oks c (Tm.subs (vr fun i => (f i : Int)) ts) = true
  | [], _ => rfl
  | t :: ts, h => by
    simp only [Tm.oks, Bool.and_eq_true] at h
    rw [Tm.subs, Tm.oks, Tm.ok_rn h.1, Tm.oks_rn h.2]; rfl
end
theorem nodup_le : ∀ {l m : List Int}, l.Nodup → (∀ x ∈ l, x ∈ m) → l.length ≤ m.length
  | [], _, _, _ => Nat.zero_le _
  | x :: l, m, h, s => by
    rw [List.nodup_cons] at h
    have hx := s x (List.mem_cons_self ..)
    have := nodup_le (m := m.erase x) h.2 fun y hy => (List.mem_erase_of_ne (fun e : y = x => h.1 (by rw [← e]; exact hy))).mpr (s y (List.mem_cons_of_mem _ hy))
    have hl := List.length_erase_of_mem hx
    have := List.length_pos_of_mem hx
    rw [List.length_cons]; omega
theorem dedup_sub {l : List Int} {n : Nat} (h : ∀ i ∈ l, 0 ≤ i ∧ i < n) : (dedup l).length ≤ n := by
  have h2 : (dedup l).Nodup := dedup_nodup l
  have h3 : ∀ i ∈ dedup l, i ∈ upto n := fun i hi => upto_mem.mpr (h i (dedup_mem.mp hi))
  have := nodup_le h2 h3
  rw [upto_len] at this
  exact this
theorem tidy_cons {h : Tm} {ts : List Tm} : ∃ g : Int → Nat, tidy (h :: ts) = h.sub (vr fun i => (g i : Int)) :: Tm.subs (vr fun i => (g i : Int)) ts ∧ ∀ x ∈ Tm.occs (h :: ts), ∀ y ∈ Tm.occs (h :: ts), g x = g y → x = y := by
  refine ⟨fun i => (dedup (Tm.occs (h :: ts))).idxOf i, by rw [tidy_is]; rfl, fun x hx y hy e => ?_⟩
  have hx := dedup_mem.mpr hx
  have hy := dedup_mem.mpr hy
  have h1 := List.idxOf_lt_length_of_mem hx
  have h2 := List.idxOf_lt_length_of_mem hy
  have g1 := List.getElem_idxOf h1
  have g2 := List.getElem_idxOf h2
  rw [← g1, ← g2]
  congr 1
mutual
def fitP (b : Nat) : PyData → Bool
  | .none => true
  | .bool _ => true
  | .int i => decide (i.natAbs ≤ b)
  | .str x => x.cps.all (· < 0x110000)
  | .list xs => fitPs b xs
  | .tuple xs => fitPs b xs
  | .dict _ => false
def fitPs (b : Nat) : List PyData → Bool
  | [] => true
  | x :: xs => fitP b x && fitPs b xs
end
mutual
theorem fitP.mono {b c : Nat} (l : b ≤ c) : ∀ {q : PyData}, fitP b q = true → fitP c q = true
  | .none, _ => rfl
  | .bool _, _ => rfl
  | .int i, h => by simp only [fitP, decide_eq_true_eq] at h ⊢; omega
  | .str _, h => h
  | .list xs, h => by simp only [fitP] at h ⊢; exact fitPs.mono l h
  | .tuple xs, h => by simp only [fitP] at h ⊢; exact fitPs.mono l h
  | .dict _, h => by simp [fitP] at h
theorem fitPs.mono {b c : Nat} (l : b ≤ c) : ∀ {qs : List PyData}, fitPs b qs = true → fitPs c qs = true
  | [], _ => rfl
  | x :: xs, h => by
    simp only [fitPs, Bool.and_eq_true] at h ⊢
    exact ⟨fitP.mono l h.1, fitPs.mono l h.2⟩
end
theorem fitPs_iff {b : Nat} : ∀ {qs : List PyData}, fitPs b qs = true ↔ ∀ q ∈ qs, fitP b q = true
  | [] => by simp [fitPs]
  | x :: xs => by simp [fitPs, fitPs_iff (qs := xs)]
theorem depthAll_le {n : Nat} : ∀ {qs : List PyData}, PyData.depthAll qs ≤ n ↔ ∀ q ∈ qs, q.depth ≤ n
  | [] => by simp [PyData.depthAll]
  | x :: xs => by
    have := depthAll_le (n := n) (qs := xs)
    simp only [PyData.depthAll, List.mem_cons, forall_eq_or_imp, ← this]; omega
theorem weightAll_mem : ∀ {qs : List PyData} {q : PyData}, q ∈ qs → q.weight ≤ PyData.weightAll qs
  | x :: xs, q, h => by
    simp only [PyData.weightAll]
    rcases List.mem_cons.mp h with rfl | h
    · omega
    · have := weightAll_mem h; omega
theorem weightAll_sub : ∀ {ps qs : List PyData}, List.Sublist ps qs → PyData.weightAll ps ≤ PyData.weightAll qs
  | _, _, .slnil => Nat.le_refl _
  | _, _, .cons x h => by have := weightAll_sub h; simp only [PyData.weightAll]; omega
  | _, _, .cons₂ x h => by have := weightAll_sub h; simp only [PyData.weightAll]; omega
mutual
theorem fit_can {b : Nat} : ∀ {q : PyData}, fitP b q = true → q.canLay0 = true
  | .none, _ => by simp [PyData.canLay0]
  | .bool _, _ => by simp [PyData.canLay0]
  | .int i, h => by simp [PyData.canLay0]
  | .str _, h => by simp only [fitP] at h; simp only [PyData.canLay0]; exact h
  | .list xs, h => by simp only [fitP] at h; simp only [PyData.canLay0]; exact fits_can h
  | .tuple xs, h => by simp only [fitP] at h; simp only [PyData.canLay0]; exact fits_can h
  | .dict _, h => by simp [fitP] at h
theorem fits_can {b : Nat} : ∀ {qs : List PyData}, fitPs b qs = true → PyData.canLayAll0 qs = true
  | [], _ => by simp [PyData.canLayAll0]
  | x :: xs, h => by
    simp only [fitPs, Bool.and_eq_true] at h
    simp only [PyData.canLayAll0, fit_can h.1, fits_can h.2, Bool.and_self]
end
mutual
theorem fit_short {b : Nat} (l : b < 10 ^ 12) : ∀ {q : PyData}, fitP b q = true → q.intsShort 13 = true
  | .none, _ => by simp [PyData.intsShort]
  | .bool _, _ => by simp [PyData.intsShort]
  | .int i, h => by
    simp only [fitP, decide_eq_true_eq] at h
    simp only [PyData.intsShort, decide_eq_true_eq]
    exact PyData.shown_int_le (by omega)
  | .str _, h => by simp [PyData.intsShort]
  | .list xs, h => by simp only [fitP] at h; simp only [PyData.intsShort]; exact fits_short l h
  | .tuple xs, h => by simp only [fitP] at h; simp only [PyData.intsShort]; exact fits_short l h
  | .dict _, h => by simp [fitP] at h
theorem fits_short {b : Nat} (l : b < 10 ^ 12) : ∀ {qs : List PyData}, fitPs b qs = true → PyData.intsShortAll 13 qs = true
  | [], _ => by simp [PyData.intsShortAll]
  | x :: xs, h => by
    simp only [fitPs, Bool.and_eq_true] at h
    simp only [PyData.intsShortAll, fit_short l h.1, fits_short l h.2, Bool.and_self]
end
mutual
theorem fit_show {b : Nat} (l : b < 10 ^ 12) : ∀ {q : PyData}, fitP b q = true → q.showable = true
  | .none, _ => by simp [PyData.showable]
  | .bool _, _ => by simp [PyData.showable]
  | .int i, h => by
    simp only [fitP, decide_eq_true_eq] at h
    simp only [PyData.showable, decide_eq_true_eq]
    exact PySem.Flt.log2_lt_of (by decide) (Nat.lt_of_le_of_lt h (Nat.lt_of_lt_of_le l (by decide)))
  | .str _, h => by simp [PyData.showable]
  | .list xs, h => by simp only [fitP] at h; simp only [PyData.showable]; exact fits_show l h
  | .tuple xs, h => by simp only [fitP] at h; simp only [PyData.showable]; exact fits_show l h
  | .dict _, h => by simp [fitP] at h
theorem fits_show {b : Nat} (l : b < 10 ^ 12) : ∀ {qs : List PyData}, fitPs b qs = true → PyData.showableAll qs = true
  | [], _ => by simp [PyData.showableAll]
  | x :: xs, h => by
    simp only [fitPs, Bool.and_eq_true] at h
    simp only [PyData.showableAll, fit_show l h.1, fits_show l h.2, Bool.and_self]
end
theorem weightAll_len : ∀ {qs : List PyData}, qs.length ≤ PyData.weightAll qs
  | [] => by simp
  | x :: xs => by have := weightAll_len (qs := xs); simp only [List.length_cons, PyData.weightAll]; omega
theorem vpds_get : ∀ {xs : List Vl} {qs : List PyData} {i : Nat} {x : Vl}, vpds xs = some qs → xs[i]? = some x → ∃ q, qs[i]? = some q ∧ vpd x = some q
  | [], _, _, _, _, h => by simp at h
  | y :: xs, qs, i, x, h, hi => by
    rw [vpds] at h
    split at h
    · rename_i p ps e1 e2
      cases h
      cases i with
      | zero => simp at hi; subst hi; exact ⟨p, rfl, e1⟩
      | succ i => simpa using vpds_get e2 (by simpa using hi)
    · cases h
theorem vpds_cons {x : Vl} {xs : List Vl} {p : PyData} {ps : List PyData} (h : vpd x = some p) (h' : vpds xs = some ps) : vpds (x :: xs) = some (p :: ps) := by rw [vpds, h, h']
theorem vpds_take : ∀ {xs : List Vl} {qs : List PyData} (i : Nat), vpds xs = some qs → vpds (xs.take i) = some (qs.take i)
  | _, _, 0, _ => by simp; rfl
  | [], _, i + 1, h => by cases h; rfl
  | x :: xs, qs, i + 1, h => by
    rw [vpds] at h
    split at h
    · rename_i p ps e1 e2; cases h; exact vpds_cons e1 (vpds_take i e2)
    · cases h
theorem vpds_drop : ∀ {xs : List Vl} {qs : List PyData} (i : Nat), vpds xs = some qs → vpds (xs.drop i) = some (qs.drop i)
  | _, _, 0, h => h
  | [], _, i + 1, h => by cases h; rfl
  | x :: xs, qs, i + 1, h => by
    rw [vpds] at h
    split at h
    · rename_i p ps e1 e2; cases h; exact vpds_drop i e2
    · cases h
def DV (v : Vl) (b n m : Nat) : Prop := ∃ q, vpd v = some q ∧ fitP b q = true ∧ q.depth ≤ n ∧ q.weight ≤ m
def DVs (vs : List Vl) (b n m : Nat) : Prop := ∃ qs, vpds vs = some qs ∧ fitPs b qs = true ∧ PyData.depthAll qs ≤ n ∧ PyData.weightAll qs ≤ m
section
variable {v : Vl} {vs ws : List Vl} {b n m b' n' m' : Nat}
theorem DV.w (h : DV v b n m) (hb : b ≤ b') (hn : n ≤ n') (hm : m ≤ m') : DV v b' n' m' := let ⟨q, a, f, x, y⟩ := h; ⟨q, a, fitP.mono hb f, Nat.le_trans x hn, Nat.le_trans y hm⟩
theorem DVs.w (h : DVs vs b n m) (hb : b ≤ b') (hn : n ≤ n') (hm : m ≤ m') : DVs vs b' n' m' := let ⟨q, a, f, x, y⟩ := h; ⟨q, a, fitPs.mono hb f, Nat.le_trans x hn, Nat.le_trans y hm⟩
theorem DVs.tup (h : DVs vs b n m) : DV (.tup vs) b (n + 1) m := let ⟨q, a, f, x, y⟩ := h; ⟨.tuple q, by rw [vpd, a]; rfl, by simp only [fitP]; exact f, by simp only [PyData.depth]; omega, by simp only [PyData.weight]; exact y⟩
theorem DVs.lst (h : DVs vs b n m) : DV (.lst vs) b (n + 1) m := let ⟨q, a, f, x, y⟩ := h; ⟨.list q, by rw [vpd, a]; rfl, by simp only [fitP]; exact f, by simp only [PyData.depth]; omega, by simp only [PyData.weight]; exact y⟩
theorem DV.un (h : DV (.tup vs) b n m) : ∃ k, n = k + 1 ∧ DVs vs b k m := by
  obtain ⟨q, a, f, x, y⟩ := h
  rw [vpd] at a
  cases e : vpds vs with
  | none => rw [e] at a; cases a
  | some qs =>
    rw [e] at a
    cases a
    simp only [fitP] at f; simp only [PyData.depth] at x; simp only [PyData.weight] at y
    exact ⟨n - 1, by omega, _, e, f, by omega, y⟩
theorem DVs.nil : DVs [] b n 0 := ⟨[], rfl, rfl, by simp [PyData.depthAll], by simp [PyData.weightAll]⟩
theorem DVs.cons (h : DV v b n m) (h' : DVs vs b n m') : DVs (v :: vs) b n (m + 1 + m') := by
  obtain ⟨q, e, f, x, y⟩ := h
  obtain ⟨q', e', f', x', y'⟩ := h'
  exact ⟨q :: q', vpds_cons e e', by simp only [fitPs, f, f', Bool.and_self], by simp only [PyData.depthAll]; omega, by simp only [PyData.weightAll]; omega⟩
theorem DVs.one (h : DV v b n m) : DVs [v] b n (m + 1) := DVs.cons h DVs.nil
theorem DVs.sub {qs rs : List PyData} (s : List.Sublist rs qs) (f : fitPs b qs = true) (x : PyData.depthAll qs ≤ n) (y : PyData.weightAll qs ≤ m) : fitPs b rs = true ∧ PyData.depthAll rs ≤ n ∧ PyData.weightAll rs ≤ m := by
  rw [fitPs_iff] at f ⊢
  rw [depthAll_le] at x ⊢
  exact ⟨fun q h => f q (s.subset h), fun q h => x q (s.subset h), Nat.le_trans (weightAll_sub s) y⟩
theorem DVs.take (i : Nat) (h : DVs vs b n m) : DVs (vs.take i) b n m := by
  obtain ⟨q, e, f, x, y⟩ := h
  exact ⟨q.take i, vpds_take i e, DVs.sub (List.take_sublist ..) f x y⟩
theorem DVs.drop (i : Nat) (h : DVs vs b n m) : DVs (vs.drop i) b n m := by
  obtain ⟨q, e, f, x, y⟩ := h
  exact ⟨q.drop i, vpds_drop i e, DVs.sub (List.drop_sublist ..) f x y⟩
theorem DVs.get {i : Nat} (h : DVs vs b n m) (hi : vs[i]? = some v) : DV v b n m := by
  obtain ⟨q, e, f, x, y⟩ := h
  obtain ⟨r, hr, hd⟩ := vpds_get e hi
  have hm := List.mem_of_getElem? hr
  exact ⟨r, hd, fitPs_iff.mp f r hm, depthAll_le.mp x r hm, Nat.le_trans (weightAll_mem hm) y⟩
theorem DVs.mem (h : DVs vs b n m) (hd : v ∈ vs) : DV v b n m := by
  obtain ⟨i, hi⟩ := List.mem_iff_getElem?.mp hd
  exact h.get hi
theorem DVs.len (h : DVs vs b n m) : vs.length ≤ m := by
  obtain ⟨q, e, _, _, y⟩ := h
  rw [vpds_len e]
  exact Nat.le_trans weightAll_len y
theorem DV.non : DV .non b 0 0 := ⟨_, rfl, rfl, Nat.le_refl _, Nat.le_refl _⟩
theorem DV.bl {c : Bool} : DV (.bl c) b 0 0 := ⟨_, rfl, rfl, Nat.le_refl _, Nat.le_refl _⟩
theorem DV.int {i : Int} (h : i.natAbs ≤ b) (hb : b < 2 ^ 40) : DV (.int i) b 0 40 := by
  refine ⟨_, rfl, by simp only [fitP, decide_eq_true h], Nat.le_refl _, ?_⟩
  simp only [PyData.weight]
  split
  · omega
  · have : i.natAbs.log2 < 40 := PySem.Flt.log2_lt_of (by decide) (by omega)
    omega
def okS (z : Str) : Bool := z.cps.all (· < 0x110000)
theorem DV.str {z : Str} (h : okS z = true) (l : z.length ≤ m) : DV (.str z) b 0 m := ⟨_, rfl, h, Nat.le_refl _, l⟩
theorem DV.str' {z : Str} (h : DV (.str z) b n m) : okS z = true ∧ z.length ≤ m := by
  obtain ⟨q, e, f, _, y⟩ := h
  cases e
  exact ⟨f, y⟩
end
theorem len_append {a b : Str} : (a ++ b).length = a.length + b.length := Array.size_append ..
theorem blsV_map : ∀ bs : List Bool, blsV (bs.map .bl) = some bs
  | [] => rfl
  | b :: r => by rw [List.map_cons, blsV, blsV_map r]; rfl
theorem wordB_ok {z : Str} (h : wordB z = true) : okS z = true ∧ z.length ≤ 12 := by
  unfold wordB at h
  simp only [Bool.and_eq_true, decide_eq_true_eq, List.all_eq_true] at h
  refine ⟨?_, h.1.2⟩
  unfold okS
  rw [Array.all_eq_true_iff_forall_mem]
  intro c hc
  have := h.2 c (by simpa using hc)
  unfold isLow at this
  simp only [Bool.and_eq_true, decide_eq_true_eq] at this
  exact decide_eq_true (by omega)
mutual
/-- a term as data -/
theorem DV_tm {c : List (Str × Int)} (hc : ConsOk c) {b : Nat} (hb : b < 2 ^ 40) : ∀ {t : Tm}, t.ok c = true → (∀ i ∈ t.occ, i.natAbs ≤ b) → DV t.v b t.ht (100 * t.size - 50)
  | .var i, _, h => (DV.int (h i (by simp [Tm.occ])) hb).w (Nat.le_refl _) (Nat.zero_le _) (by rw [Tm.size]; omega)
  | .app w ts, ho, h => by
    simp only [Tm.ok, Bool.and_eq_true, decide_eq_true_eq] at ho
    have hw := wordB_ok (hc.wd _ (mem_lookup ho.1))
    have := DVs.cons ((DV.str (b := b) hw.1 hw.2).w (Nat.le_refl _) (Nat.zero_le (Tm.hts ts)) (Nat.le_refl _)) (DV_tms hc hb ho.2 h)
    rw [Tm.v]
    exact this.tup.w (Nat.le_refl _) (by rw [Tm.ht]; omega) (by rw [Tm.size]; omega)
theorem DV_tms {c : List (Str × Int)} (hc : ConsOk c) {b : Nat} (hb : b < 2 ^ 40) : ∀ {ts : List Tm}, Tm.oks c ts = true → (∀ i ∈ Tm.occs ts, i.natAbs ≤ b) → DVs (Tm.vs ts) b (Tm.hts ts) (100 * Tm.sizes ts)
  | [], _, _ => DVs.nil
  | t :: ts, ho, h => by
    simp only [Tm.oks, Bool.and_eq_true] at ho
    have h1 := DV_tm hc hb ho.1 fun i hi => h i (by rw [Tm.occs]; exact List.mem_append_left _ hi)
    have h2 := DV_tms hc hb ho.2 fun i hi => h i (by rw [Tm.occs]; exact List.mem_append_right _ hi)
    have hp := t.size_pos
    rw [Tm.vs]
    exact (DVs.cons (h1.w (Nat.le_refl _) (by rw [Tm.hts]; exact Nat.le_max_left ..) (Nat.le_refl _)) (h2.w (Nat.le_refl _) (by rw [Tm.hts]; exact Nat.le_max_right ..) (Nat.le_refl _))).w (Nat.le_refl _) (Nat.le_refl _) (by rw [Tm.sizes]; omega)
end

noncomputable instance tmDec : DecidableEq Tm := fun a b => Classical.propDecidable (a = b)
mutual
def Tm.pd : Tm → PyData
  | .var i => .int i
  | .app w ts => .tuple (.str w :: Tm.pds ts)
def Tm.pds : List Tm → List PyData
  | [] => []
  | t :: ts => t.pd :: Tm.pds ts
end
mutual
theorem Tm.vpd_v : ∀ t : Tm, vpd t.v = some t.pd
  | .var i => rfl
  | .app w ts => by rw [Tm.v, vpd, vpds, vpd, Tm.vpds_vs ts]; rfl
theorem Tm.vpds_vs : ∀ ts : List Tm, vpds (Tm.vs ts) = some (Tm.pds ts)
  | [] => rfl
  | t :: ts => by rw [Tm.vs, vpds, Tm.vpd_v t, Tm.vpds_vs ts]; rfl
end
mutual
theorem Tm.eqv_pd : ∀ t u : Tm, PyData.eqv t.pd u.pd = decide (t = u)
  | .var i, .var j => by
    simp only [Tm.pd, PyData.eqv]
    rw [Bool.eq_iff_iff]
    simp
  | .var i, .app w ts => by simp [Tm.pd, PyData.eqv]
  | .app w ts, .var j => by simp [Tm.pd, PyData.eqv]
  | .app w ts, .app u us => by
    simp only [Tm.pd, PyData.eqv, PyData.eqvAll, Tm.eqvs_pds ts us]
    rw [Bool.eq_iff_iff]
    simp
theorem Tm.eqvs_pds : ∀ ts us : List Tm, PyData.eqvAll (Tm.pds ts) (Tm.pds us) = decide (ts = us)
  | [], [] => by simp [Tm.pds, PyData.eqvAll]
  | [], u :: us => by simp [Tm.pds, PyData.eqvAll]
  | t :: ts, [] => by simp [Tm.pds, PyData.eqvAll]
  | t :: ts, u :: us => by
    simp only [Tm.pds, PyData.eqvAll, Tm.eqv_pd t u, Tm.eqvs_pds ts us]
    rw [Bool.eq_iff_iff]
    simp
end
theorem DV.shaped {v : Vl} {q : PyData} {b n m : Nat} (h : DV v b n m) (e : vpd v = some q) (hn : n ≤ 64) : SeqAt.shaped q = true := by
  obtain ⟨q', e', f, d, _⟩ := h
  rw [e] at e'
  cases e'
  unfold SeqAt.shaped
  rw [fit_can f, decide_eq_true (by omega)]; rfl
theorem vEq_tm {t u : Tm} {b n m b' n' m' : Nat} (h : DV t.v b n m) (h' : DV u.v b' n' m') (hn : n ≤ 64) (hn' : n' ≤ 64) : vEq t.v u.v = some (decide (t = u)) := by
  have s1 := h.shaped (Tm.vpd_v t) hn
  have s2 := h'.shaped (Tm.vpd_v u) hn'
  have go : (ob (vpd t.v) fun p => ob (vpd u.v) fun q => gd (SeqAt.shaped p = true ∧ SeqAt.shaped q = true) (some (PyData.eqv p q))) = some (decide (t = u)) := by
    rw [Tm.vpd_v, Tm.vpd_v]
    show gd _ _ = _
    rw [gd_pos ⟨s1, s2⟩, Tm.eqv_pd]
  cases t with
  | var i => cases u with
    | var j =>
      show some (decide ((Vl.int i).toV = (Vl.int j).toV)) = _
      rw [d_int]
      congr 1
      rw [Bool.eq_iff_iff]; simp
    | app w ts => exact go
  | app w ts => cases u with
    | var j => exact go
    | app u us => exact go
mutual
noncomputable def taken : Tm → Tm → List (Int × Tm) → Bool × List (Int × Tm)
  | .var i, t, G => match G.lookup i with
    | some u => (decide (u = t), G)
    | none => (true, G ++ [(i, t)])
  | .app _ _, .var _, G => (false, G)
  | .app w ts, .app u us, G => if w = u ∧ ts.length = us.length then takens ts us G else (false, G)
noncomputable def takens : List Tm → List Tm → List (Int × Tm) → Bool × List (Int × Tm)
  | [], _, G => (true, G)
  | _ :: _, [], G => (true, G)
  | t :: ts, u :: us, G => if (taken t u G).1 = true then takens ts us (taken t u G).2 else (false, (taken t u G).2)
end
def agree (f : Int → Tm) (G : List (Int × Tm)) : Prop := ∀ p ∈ G, p.2 = f p.1
theorem agree.look {f : Int → Tm} {G : List (Int × Tm)} (h : agree f G) {i : Int} {u : Tm} (e : G.lookup i = some u) : u = f i := h _ (look_mem e)
mutual
theorem taken_of {f : Int → Tm} : ∀ (g : Tm) (G : List (Int × Tm)), agree f G → (taken g (g.sub f) G).1 = true ∧ agree f (taken g (g.sub f) G).2
  | .var i, G, h => by
    rw [Tm.sub, taken]
    cases e : G.lookup i with
    | some u => exact ⟨decide_eq_true (h.look e), h⟩
    | none => exact ⟨rfl, fun p hp => by
        rcases List.mem_append.mp hp with hp | hp
        · exact h p hp
        · rw [List.mem_singleton.mp hp]⟩
  | .app w ts, G, h => by
    rw [Tm.sub, taken, if_pos ⟨rfl, by rw [Tm.subs_map, List.length_map]⟩]
    exact takens_of ts G h
theorem takens_of {f : Int → Tm} : ∀ (gs : List Tm) (G : List (Int × Tm)), agree f G → (takens gs (Tm.subs f gs) G).1 = true ∧ agree f (takens gs (Tm.subs f gs) G).2
  | [], G, h => by rw [takens]; exact ⟨rfl, h⟩
  | g :: gs, G, h => by
    obtain ⟨h1, h2⟩ := taken_of g G h
    rw [Tm.subs, takens, if_pos h1]
    exact takens_of gs _ h2
end
mutual
theorem taken_to : ∀ (g t : Tm) (G : List (Int × Tm)), (taken g t G).1 = true → (∀ i u, G.lookup i = some u → (taken g t G).2.lookup i = some u) ∧ ∀ f : Int → Tm, (∀ i u, (taken g t G).2.lookup i = some u → f i = u) → g.sub f = t
  | .var i, t, G, h => by
    rw [taken] at h ⊢
    cases e : G.lookup i with
    | some u =>
      rw [e] at h
      have hu : u = t := of_decide_eq_true h
      subst hu
      exact ⟨fun _ _ h => h, fun f hf => hf i u e⟩
    | none =>
      refine ⟨fun j u hj => ?_, fun f hf => hf i t ?_⟩
      · show (G ++ [(i, t)]).lookup j = some u
        rw [List.lookup_append, hj]; rfl
      · show (G ++ [(i, t)]).lookup i = some t
        rw [List.lookup_append, e, List.lookup_cons, beq_self_eq_true]; rfl
  | .app w ts, .var j, G, h => by rw [taken] at h; exact absurd h Bool.false_ne_true
  | .app w ts, .app u us, G, h => by
    rw [taken] at h ⊢
    by_cases c : w = u ∧ ts.length = us.length
    · rw [if_pos c] at h ⊢
      obtain ⟨h1, h2⟩ := takens_to ts us G c.2 h
      exact ⟨h1, fun f hf => by rw [Tm.sub, h2 f hf, c.1]⟩
    · rw [if_neg c] at h; exact absurd h Bool.false_ne_true
theorem takens_to : ∀ (gs us : List Tm) (G : List (Int × Tm)), gs.length = us.length → (takens gs us G).1 = true → (∀ i u, G.lookup i = some u → (takens gs us G).2.lookup i = some u) ∧ ∀ f : Int → Tm, (∀ i u, (takens gs us G).2.lookup i = some u → f i = u) → Tm.subs f gs = us
  | [], [], G, _, _ => ⟨fun _ _ h => by rw [takens]; exact h, fun _ _ => rfl⟩
  | [], _ :: _, _, hl, _ => by cases hl
  | _ :: _, [], _, hl, _ => by cases hl
  | g :: gs, u :: us, G, hl, h => by
    rw [takens] at h ⊢
    by_cases c : (taken g u G).1 = true
    · rw [if_pos c] at h ⊢
      obtain ⟨a1, a2⟩ := taken_to g u G c
      obtain ⟨b1, b2⟩ := takens_to gs us _ (Nat.succ.inj hl) h
      exact ⟨fun i v hv => b1 i v (a1 i v hv), fun f hf => by rw [Tm.subs, a2 f fun i v hv => hf i v (b1 i v hv), b2 f hf]⟩
    · rw [if_neg c] at h; exact absurd h Bool.false_ne_true
end
/-- one term is an instance of another -/
noncomputable def instB (g t : Tm) : Bool := (taken g t []).1
theorem instB_iff {g t : Tm} : instB g t = true ↔ ∃ f, g.sub f = t := by
  constructor
  · intro h
    refine ⟨fun i => ((taken g t []).2.lookup i).getD default, (taken_to g t [] h).2 _ fun i u e => ?_⟩
    rw [e]; rfl
  · rintro ⟨f, rfl⟩
    exact (taken_of g [] fun p hp => nomatch hp).1
noncomputable def slot (p q : Tm) (K : List (Tm × Tm)) : Tm × List (Tm × Tm) := if (p, q) ∈ K then (.var (K.idxOf (p, q) : Nat), K) else (.var (K.length : Nat), K ++ [(p, q)])
mutual
noncomputable def lgg : Tm → Tm → List (Tm × Tm) → Tm × List (Tm × Tm)
  | .var i, q, K => slot (.var i) q K
  | .app w ts, .var j, K => slot (.app w ts) (.var j) K
  | .app w ts, .app u us, K => if w = u ∧ ts.length = us.length then (.app w (lggs ts us K).1, (lggs ts us K).2) else slot (.app w ts) (.app u us) K
noncomputable def lggs : List Tm → List Tm → List (Tm × Tm) → List Tm × List (Tm × Tm)
  | [], _, K => ([], K)
  | _ :: _, [], K => ([], K)
  | t :: ts, u :: us, K => ((lgg t u K).1 :: (lggs ts us (lgg t u K).2).1, (lggs ts us (lgg t u K).2).2)
end
theorem slot_ext (p q : Tm) (K : List (Tm × Tm)) : K <+: (slot p q K).2 := by
  unfold slot
  split
  · exact List.prefix_rfl
  · exact List.prefix_append ..
mutual
theorem lgg_ext : ∀ (p q : Tm) (K : List (Tm × Tm)), K <+: (lgg p q K).2
  | .var i, q, K => by rw [lgg]; exact slot_ext ..
  | .app w ts, .var j, K => by rw [lgg]; exact slot_ext ..
  | .app w ts, .app u us, K => by
    rw [lgg]
    split
    · exact lggs_ext ts us K
    · exact slot_ext ..
theorem lggs_ext : ∀ (ts us : List Tm) (K : List (Tm × Tm)), K <+: (lggs ts us K).2
  | [], _, K => by rw [lggs]; exact List.prefix_rfl
  | _ :: _, [], K => by rw [lggs]; exact List.prefix_rfl
  | t :: ts, u :: us, K => by rw [lggs]; exact (lgg_ext t u K).trans (lggs_ext ts us _)
end
theorem slot_at {p q : Tm} {K R : List (Tm × Tm)} (h : (slot p q K).2 <+: R) : ∃ n : Nat, (slot p q K).1 = .var (n : Int) ∧ R[n]? = some (p, q) ∧ R.idxOf (p, q) = n := by
  unfold slot at h ⊢
  by_cases c : (p, q) ∈ K
  · rw [if_pos c] at h ⊢
    obtain ⟨E, rfl⟩ := h
    have hl := List.idxOf_lt_length_of_mem c
    refine ⟨K.idxOf (p, q), rfl, ?_, ?_⟩
    · show (K ++ E)[_]? = _
      rw [List.getElem?_append_left hl, List.getElem?_eq_getElem hl, List.getElem_idxOf]
    · show (K ++ E).idxOf _ = _
      rw [List.idxOf_append, if_pos c]
  · rw [if_neg c] at h ⊢
    obtain ⟨E, rfl⟩ := h
    refine ⟨K.length, rfl, ?_, ?_⟩
    · show (K ++ [(p, q)] ++ E)[_]? = _
      rw [List.append_assoc, List.getElem?_append_right (Nat.le_refl _), Nat.sub_self]; rfl
    · show (K ++ [(p, q)] ++ E).idxOf _ = _
      rw [List.append_assoc, List.idxOf_append, if_neg c]
      simp
/-- what fills a slot on one side -/
def sideOf (π : Tm × Tm → Tm) (R : List (Tm × Tm)) (i : Int) : Tm := ((R[i.toNat]?).map π).getD default
theorem slot_side {π : Tm × Tm → Tm} {p q : Tm} {K R : List (Tm × Tm)} (h : (slot p q K).2 <+: R) : (slot p q K).1.sub (sideOf π R) = π (p, q) := by
  obtain ⟨n, e, r, _⟩ := slot_at h
  rw [e, Tm.sub, sideOf, Int.toNat_natCast, r]; rfl
mutual
theorem lgg_fst : ∀ (p q : Tm) (K R : List (Tm × Tm)), (lgg p q K).2 <+: R → (lgg p q K).1.sub (sideOf Prod.fst R) = p
  | .var i, q, K, R, h => by rw [lgg] at h ⊢; exact slot_side h
  | .app w ts, .var j, K, R, h => by rw [lgg] at h ⊢; exact slot_side h
  | .app w ts, .app u us, K, R, h => by
    rw [lgg] at h ⊢
    by_cases c : w = u ∧ ts.length = us.length
    · rw [if_pos c] at h ⊢
      rw [Tm.sub, lggs_fst ts us K R c.2 h]
    · rw [if_neg c] at h ⊢; exact slot_side h
theorem lggs_fst : ∀ (ts us : List Tm) (K R : List (Tm × Tm)), ts.length = us.length → (lggs ts us K).2 <+: R → Tm.subs (sideOf Prod.fst R) (lggs ts us K).1 = ts
  | [], _, K, R, _, h => by rw [lggs]; rfl
  | _ :: _, [], K, R, hl, h => by cases hl
  | t :: ts, u :: us, K, R, hl, h => by
    rw [lggs] at h ⊢
    rw [Tm.subs, lgg_fst t u K R ((lggs_ext ts us _).trans h), lggs_fst ts us _ R (Nat.succ.inj hl) h]
end
mutual
theorem lgg_snd : ∀ (p q : Tm) (K R : List (Tm × Tm)), (lgg p q K).2 <+: R → (lgg p q K).1.sub (sideOf Prod.snd R) = q
  | .var i, q, K, R, h => by rw [lgg] at h ⊢; exact slot_side h
  | .app w ts, .var j, K, R, h => by rw [lgg] at h ⊢; exact slot_side h
  | .app w ts, .app u us, K, R, h => by
    rw [lgg] at h ⊢
    by_cases c : w = u ∧ ts.length = us.length
    · rw [if_pos c] at h ⊢
      rw [Tm.sub, lggs_snd ts us K R c.2 h, c.1]
    · rw [if_neg c] at h ⊢; exact slot_side h
theorem lggs_snd : ∀ (ts us : List Tm) (K R : List (Tm × Tm)), ts.length = us.length → (lggs ts us K).2 <+: R → Tm.subs (sideOf Prod.snd R) (lggs ts us K).1 = us
  | [], [], K, R, _, h => by rw [lggs]; rfl
  | [], _ :: _, K, R, hl, h => by cases hl
  | _ :: _, [], K, R, hl, h => by cases hl
  | t :: ts, u :: us, K, R, hl, h => by
    rw [lggs] at h ⊢
    rw [Tm.subs, lgg_snd t u K R ((lggs_ext ts us _).trans h), lggs_snd ts us _ R (Nat.succ.inj hl) h]
end
/-- the same by a table that is known beforehand -/
noncomputable def slotR (R : List (Tm × Tm)) (p q : Tm) : Tm := .var (R.idxOf (p, q) : Nat)
mutual
noncomputable def lgR (R : List (Tm × Tm)) : Tm → Tm → Tm
  | .var i, q => slotR R (.var i) q
  | .app w ts, .var j => slotR R (.app w ts) (.var j)
  | .app w ts, .app u us => if w = u ∧ ts.length = us.length then .app w (lgRs R ts us) else slotR R (.app w ts) (.app u us)
noncomputable def lgRs (R : List (Tm × Tm)) : List Tm → List Tm → List Tm
  | [], _ => []
  | _ :: _, [] => []
  | t :: ts, u :: us => lgR R t u :: lgRs R ts us
end
theorem slot_R {p q : Tm} {K R : List (Tm × Tm)} (h : (slot p q K).2 <+: R) : (slot p q K).1 = slotR R p q := by
  obtain ⟨n, e, _, i⟩ := slot_at h
  rw [e, slotR, i]
mutual
theorem lgg_R : ∀ (p q : Tm) (K R : List (Tm × Tm)), (lgg p q K).2 <+: R → (lgg p q K).1 = lgR R p q
  | .var i, q, K, R, h => by rw [lgg] at h ⊢; rw [lgR]; exact slot_R h
  | .app w ts, .var j, K, R, h => by rw [lgg] at h ⊢; rw [lgR]; exact slot_R h
  | .app w ts, .app u us, K, R, h => by
    rw [lgg] at h ⊢
    rw [lgR]
    by_cases c : w = u ∧ ts.length = us.length
    · rw [if_pos c] at h ⊢
      rw [if_pos c, lggs_R ts us K R h]
    · rw [if_neg c] at h ⊢
      rw [if_neg c]; exact slot_R h
theorem lggs_R : ∀ (ts us : List Tm) (K R : List (Tm × Tm)), (lggs ts us K).2 <+: R → (lggs ts us K).1 = lgRs R ts us
  | [], _, K, R, h => by rw [lggs, lgRs]
  | _ :: _, [], K, R, h => by rw [lggs, lgRs]
  | t :: ts, u :: us, K, R, h => by
    rw [lggs] at h ⊢
    rw [lgRs, lgg_R t u K R ((lggs_ext ts us _).trans h), lggs_R ts us _ R h]
end
mutual
theorem lgR_sub {R : List (Tm × Tm)} {f g : Int → Tm} : ∀ t : Tm, lgR R (t.sub f) (t.sub g) = t.sub fun i => lgR R (f i) (g i)
  | .var i => by rw [Tm.sub, Tm.sub, Tm.sub]
  | .app w ts => by
    rw [Tm.sub, Tm.sub, Tm.sub, lgR, if_pos ⟨rfl, by rw [Tm.subs_map, Tm.subs_map, List.length_map, List.length_map]⟩, lgRs_sub ts]
theorem lgRs_sub {R : List (Tm × Tm)} {f g : Int → Tm} : ∀ ts : List Tm, lgRs R (Tm.subs f ts) (Tm.subs g ts) = Tm.subs (fun i => lgR R (f i) (g i)) ts
  | [] => rfl
  | t :: ts => by rw [Tm.subs, Tm.subs, Tm.subs, lgRs, lgR_sub t, lgRs_sub ts]
end
theorem tidy_one (t : Tm) : ∃ g : Int → Nat, tidy [t] = [t.sub (vr fun i => (g i : Int))] ∧ ∀ x ∈ t.occ, ∀ y ∈ t.occ, g x = g y → x = y := by
  obtain ⟨g, h1, h2⟩ := tidy_cons (h := t) (ts := [])
  have e : Tm.occs [t] = t.occ := by simp [Tm.occs]
  rw [e] at h2
  exact ⟨g, h1, h2⟩
noncomputable def joinT (p q : Tm) : Tm := (tidy [(lgg p q []).1]).headD default
theorem join_le {p q : Tm} : instB (joinT p q) p = true ∧ instB (joinT p q) q = true := by
  obtain ⟨g, h1, h2⟩ := tidy_one (lgg p q []).1
  have e : joinT p q = (lgg p q []).1.sub (vr fun i => (g i : Int)) := by unfold joinT; rw [h1]; rfl
  have inv : ∀ f : Int → Tm, ∃ f', (joinT p q).sub f' = (lgg p q []).1.sub f := fun f => by
    classical
    refine ⟨fun j => if h : ∃ x ∈ (lgg p q []).1.occ, (g x : Int) = j then f h.choose else default, ?_⟩
    rw [e, Tm.sub_sub]
    refine Tm.sub_congr fun i hi => ?_
    show dite _ _ _ = _
    have hx : ∃ x ∈ (lgg p q []).1.occ, (g x : Int) = (g i : Int) := ⟨i, hi, rfl⟩
    rw [dif_pos hx]
    have := hx.choose_spec
    rw [h2 _ this.1 i hi (by exact_mod_cast this.2)]
  constructor
  · obtain ⟨f, hf⟩ := inv (sideOf Prod.fst (lgg p q []).2)
    exact instB_iff.mpr ⟨f, hf.trans (lgg_fst p q [] _ List.prefix_rfl)⟩
  · obtain ⟨f, hf⟩ := inv (sideOf Prod.snd (lgg p q []).2)
    exact instB_iff.mpr ⟨f, hf.trans (lgg_snd p q [] _ List.prefix_rfl)⟩
theorem join_least {p q o : Tm} (hp : instB o p = true) (hq : instB o q = true) : instB o (joinT p q) = true := by
  obtain ⟨f, rfl⟩ := instB_iff.mp hp
  obtain ⟨f', rfl⟩ := instB_iff.mp hq
  obtain ⟨g, h1, h2⟩ := tidy_one (lgg (o.sub f) (o.sub f') []).1
  have e : joinT (o.sub f) (o.sub f') = (lgg (o.sub f) (o.sub f') []).1.sub (vr fun i => (g i : Int)) := by unfold joinT; rw [h1]; rfl
  rw [e, lgg_R _ _ [] _ List.prefix_rfl, lgR_sub, Tm.sub_sub]
  exact instB_iff.mpr ⟨_, rfl⟩

mutual
def Tm.wok : Tm → Bool
  | .var i => decide (0 ≤ i) && decide (i ≤ 9)
  | .app w ts => wordB w && Tm.woks ts
def Tm.woks : List Tm → Bool
  | [] => true
  | t :: ts => t.wok && Tm.woks ts
end
mutual
def wrL : Tm → List Nat
  | .var i => [120, 48 + i.toNat]
  | .app w ts => w.cps.toList ++ wrA ts
def wrA : List Tm → List Nat
  | [] => []
  | t :: ts => 40 :: (wrL t ++ wrT ts)
def wrT : List Tm → List Nat
  | [] => [41]
  | t :: ts => 44 :: (wrL t ++ wrT ts)
end
def stp : List Nat → Bool
  | [] => true
  | c :: _ => decide (c = 32) || decide (c = 41) || decide (c = 44)
def nlo : List Nat → Bool
  | [] => true
  | c :: _ => !isLow c
theorem stp_nlo {a : List Nat} (h : stp a = true) : nlo a = true := by
  cases a with
  | nil => rfl
  | cons c a =>
    simp only [stp, Bool.or_eq_true, decide_eq_true_eq] at h
    rcases h with (rfl | rfl) | rfl <;> rfl
theorem run_eq : ∀ {u v X Y : List Nat}, u.all isLow = true → v.all isLow = true → nlo X = true → nlo Y = true → u ++ X = v ++ Y → u = v ∧ X = Y
  | [], [], X, Y, _, _, _, _, h => ⟨rfl, h⟩
  | [], c :: v, X, Y, _, hv, hX, _, h => by
    rw [List.nil_append] at h
    subst h
    rw [List.all_cons, Bool.and_eq_true] at hv
    simp only [List.cons_append, nlo, hv.1] at hX
    exact absurd hX (by decide)
  | c :: u, [], X, Y, hu, _, _, hY, h => by
    rw [List.nil_append] at h
    subst h
    rw [List.all_cons, Bool.and_eq_true] at hu
    simp only [List.cons_append, nlo, hu.1] at hY
    exact absurd hY (by decide)
  | c :: u, d :: v, X, Y, hu, hv, hX, hY, h => by
    rw [List.cons_append, List.cons_append, List.cons.injEq] at h
    rw [List.all_cons, Bool.and_eq_true] at hu hv
    obtain ⟨h1, h2⟩ := run_eq hu.2 hv.2 hX hY h.2
    exact ⟨by rw [h.1, h1], h2⟩
theorem nlo_wrA {ts : List Tm} {a : List Nat} (h : stp a = true) : nlo (wrA ts ++ a) = true := by
  cases ts with
  | nil => rw [wrA]; exact stp_nlo h
  | cons t ts => rw [wrA]; rfl
theorem stp_wrT {ts : List Tm} {a : List Nat} : stp (wrT ts ++ a) = true := by
  cases ts with
  | nil => rfl
  | cons t ts => rw [wrT]; rfl
theorem word_low {w : Str} (h : wordB w = true) : w.cps.toList.all isLow = true ∧ w.cps.toList ≠ [] := by
  unfold wordB at h
  simp only [Bool.and_eq_true, decide_eq_true_eq] at h
  refine ⟨h.2, fun e => ?_⟩
  have := congrArg List.length e
  have h1 := h.1.1
  rw [Array.length_toList] at this
  rw [Str.length, this] at h1
  exact absurd h1 (by decide)
theorem var_word {i : Int} {w : Str} {ts : List Tm} {a b : List Nat} (hi : 0 ≤ i ∧ i ≤ 9) (hw : wordB w = true) (hb : stp b = true) : [120, 48 + i.toNat] ++ a ≠ w.cps.toList ++ wrA ts ++ b := by
  intro h
  obtain ⟨hl, hn⟩ := word_low hw
  cases e : w.cps.toList with
  | nil => exact hn e
  | cons c r =>
    rw [e] at h hl
    simp only [List.cons_append, List.append_assoc, List.nil_append, List.cons.injEq] at h
    cases r with
    | nil =>
      have h := h.2
      rw [List.nil_append] at h
      cases ts with
      | nil =>
        rw [wrA, List.nil_append] at h
        subst h
        simp only [stp, Bool.or_eq_true, decide_eq_true_eq] at hb
        omega
      | cons t ts =>
        rw [wrA, List.cons_append, List.cons.injEq] at h
        omega
    | cons d r =>
      have h := h.2
      rw [List.cons_append, List.cons.injEq] at h
      simp only [List.all_cons, Bool.and_eq_true, isLow, decide_eq_true_eq] at hl
      omega
theorem cps_inj {w u : Str} (h : w.cps.toList = u.cps.toList) : w = u := by
  cases w; cases u
  congr 1
  exact Array.toList_inj.mp h
mutual
theorem wrL_inj : ∀ (t t' : Tm) {a b : List Nat}, t.wok = true → t'.wok = true → stp a = true → stp b = true → wrL t ++ a = wrL t' ++ b → t = t' ∧ a = b
  | .var i, .var j, a, b, h1, h2, _, _, h => by
    simp only [Tm.wok, Bool.and_eq_true, decide_eq_true_eq] at h1 h2
    simp only [wrL, List.cons_append, List.nil_append, List.cons.injEq, true_and] at h
    have : i = j := by omega
    exact ⟨by rw [this], h.2⟩
  | .var i, .app w ts, a, b, h1, h2, _, sb, h => by
    simp only [Tm.wok, Bool.and_eq_true, decide_eq_true_eq] at h1 h2
    rw [wrL, wrL] at h
    exact absurd h (var_word h1 h2.1 sb)
  | .app w ts, .var j, a, b, h1, h2, sa, _, h => by
    simp only [Tm.wok, Bool.and_eq_true, decide_eq_true_eq] at h1 h2
    rw [wrL, wrL] at h
    exact absurd h.symm (var_word h2 h1.1 sa)
  | .app w ts, .app u us, a, b, h1, h2, sa, sb, h => by
    simp only [Tm.wok, Bool.and_eq_true] at h1 h2
    rw [wrL, wrL, List.append_assoc, List.append_assoc] at h
    obtain ⟨e1, e2⟩ := run_eq (word_low h1.1).1 (word_low h2.1).1 (nlo_wrA sa) (nlo_wrA sb) h
    obtain ⟨e3, e4⟩ := wrA_inj ts us h1.2 h2.2 sa sb e2
    exact ⟨by rw [cps_inj e1, e3], e4⟩
theorem wrA_inj : ∀ (ts us : List Tm) {a b : List Nat}, Tm.woks ts = true → Tm.woks us = true → stp a = true → stp b = true → wrA ts ++ a = wrA us ++ b → ts = us ∧ a = b
  | [], [], a, b, _, _, _, _, h => ⟨rfl, by simpa [wrA] using h⟩
  | [], u :: us, a, b, _, _, sa, _, h => by
    rw [wrA, wrA, List.nil_append] at h
    subst h
    simp [stp] at sa
  | t :: ts, [], a, b, _, _, _, sb, h => by
    rw [wrA, wrA, List.nil_append] at h
    subst h
    simp [stp] at sb
  | t :: ts, u :: us, a, b, h1, h2, _, _, h => by
    simp only [Tm.woks, Bool.and_eq_true] at h1 h2
    rw [wrA, wrA, List.cons_append, List.cons_append, List.cons.injEq, List.append_assoc, List.append_assoc] at h
    obtain ⟨e1, e2⟩ := wrL_inj t u h1.1 h2.1 stp_wrT stp_wrT h.2
    obtain ⟨e3, e4⟩ := wrT_inj ts us h1.2 h2.2 e2
    exact ⟨by rw [e1, e3], e4⟩
theorem wrT_inj : ∀ (ts us : List Tm) {a b : List Nat}, Tm.woks ts = true → Tm.woks us = true → wrT ts ++ a = wrT us ++ b → ts = us ∧ a = b
  | [], [], a, b, _, _, h => ⟨rfl, by simpa [wrT] using h⟩
  | [], u :: us, a, b, _, _, h => by
    rw [wrT, wrT, List.cons_append, List.cons_append, List.cons.injEq] at h
    omega
  | t :: ts, [], a, b, _, _, h => by
    rw [wrT, wrT, List.cons_append, List.cons_append, List.cons.injEq] at h
    omega
  | t :: ts, u :: us, a, b, h1, h2, h => by
    simp only [Tm.woks, Bool.and_eq_true] at h1 h2
    rw [wrT, wrT, List.cons_append, List.cons_append, List.cons.injEq, List.append_assoc, List.append_assoc] at h
    obtain ⟨e1, e2⟩ := wrL_inj t u h1.1 h2.1 stp_wrT stp_wrT h.2
    obtain ⟨e3, e4⟩ := wrT_inj ts us h1.2 h2.2 e2
    exact ⟨by rw [e1, e3], e4⟩
end
mutual
theorem wrL_len : ∀ {t : Tm}, t.wok = true → (wrL t).length + 2 ≤ 16 * t.size
  | .var i, _ => by rw [wrL, Tm.size]; show 2 + 2 ≤ 16 * 1; decide
  | .app w ts, h => by
    simp only [Tm.wok, Bool.and_eq_true] at h
    have h1 := wrA_len (ts := ts) h.2
    have h2 := (wordB_ok h.1).2
    rw [wrL, Tm.size, List.length_append]
    simp only [Str.length] at h2
    rw [Array.length_toList]
    omega
theorem wrA_len : ∀ {ts : List Tm}, Tm.woks ts = true → (wrA ts).length ≤ 16 * Tm.sizes ts
  | [], _ => by rw [wrA]; exact Nat.zero_le _
  | t :: ts, h => by
    simp only [Tm.woks, Bool.and_eq_true] at h
    have h1 := wrL_len (t := t) h.1
    have h2 := wrT_len (ts := ts) h.2
    rw [wrA, Tm.sizes, List.length_cons, List.length_append]
    omega
theorem wrT_len : ∀ {ts : List Tm}, Tm.woks ts = true → (wrT ts).length ≤ 16 * Tm.sizes ts + 1
  | [], _ => by rw [wrT]; exact Nat.le_add_left ..
  | t :: ts, h => by
    simp only [Tm.woks, Bool.and_eq_true] at h
    have h1 := wrL_len (t := t) h.1
    have h2 := wrT_len (ts := ts) h.2
    rw [wrT, Tm.sizes, List.length_cons, List.length_append]
    omega
end
def wrS (t : Tm) : Str := ⟨(wrL t).toArray⟩
theorem wrS_cps (t : Tm) : (wrS t).cps.toList = wrL t := rfl
theorem wrS_len (t : Tm) : (wrS t).length = (wrL t).length := by simp [wrS, Str.length]
/-- the text of a pair -/
def keyS (z : Tm × Tm) : Str := wrS z.1 ++ PySem.Str.ofString " " ++ wrS z.2
theorem app_cps {u v : Str} : (u ++ v).cps.toList = u.cps.toList ++ v.cps.toList := by
  show (u.cps ++ v.cps).toList = _
  simp
theorem keyS_inj {z y : Tm × Tm} (hz : z.1.wok = true ∧ z.2.wok = true) (hy : y.1.wok = true ∧ y.2.wok = true) (h : keyS y = keyS z) : y = z := by
  have e := congrArg (fun s : Str => s.cps.toList) h
  simp only [keyS, app_cps, wrS_cps, List.append_assoc] at e
  have hb : (PySem.Str.ofString " ").cps.toList = [32] := by decide +kernel
  rw [hb] at e
  obtain ⟨e1, e2⟩ := wrL_inj y.1 z.1 hy.1 hz.1 rfl rfl e
  rw [List.cons_append, List.cons_append, List.cons.injEq, List.nil_append, List.nil_append] at e2
  obtain ⟨e3, _⟩ := wrL_inj y.2 z.2 (a := []) (b := []) hy.2 hz.2 rfl rfl (by rw [List.append_nil, List.append_nil]; exact e2.2)
  exact Prod.ext e1 e3
/-- a table of pairs by their texts -/
def dW : Nat → List (Tm × Tm) → List (L2.Key × Vl)
  | _, [] => []
  | n, z :: K => (.inr (keyS z), .int (n : Int)) :: dW (n + 1) K
theorem dW_len : ∀ (n : Nat) (K : List (Tm × Tm)), (dW n K).length = K.length
  | _, [] => rfl
  | n, z :: K => by rw [dW, List.length_cons, dW_len (n + 1) K, List.length_cons]
theorem dW_snoc : ∀ (n : Nat) (K : List (Tm × Tm)) (z : Tm × Tm), dW n (K ++ [z]) = dW n K ++ [(.inr (keyS z), .int ((n + K.length : Nat) : Int))]
  | n, [], z => rfl
  | n, y :: K, z => by
    rw [List.cons_append, dW, dW, dW_snoc (n + 1) K z, List.cons_append, List.length_cons]
    have : n + 1 + K.length = n + (K.length + 1) := by omega
    rw [this]
theorem dW_get : ∀ (n : Nat) (K : List (Tm × Tm)) (z : Tm × Tm), (∀ y ∈ K, keyS y = keyS z → y = z) → getV (dW n K) (.inr (keyS z)) = if z ∈ K then some (.int ((n + K.idxOf z : Nat) : Int)) else none
  | n, [], z, _ => by rw [if_neg (by simp)]; rfl
  | n, y :: K, z, h => by
    unfold getV
    rw [dW, List.find?_cons]
    by_cases e : y = z
    · subst e
      have hd : decide ((Sum.inr (keyS y) : L2.Key) = Sum.inr (keyS y)) = true := decide_eq_true rfl
      simp only [hd]
      rw [if_pos (List.mem_cons_self ..), List.idxOf_cons_self]
      rfl
    · have hd : decide ((Sum.inr (keyS y) : L2.Key) = Sum.inr (keyS z)) = false := decide_eq_false fun c => e (h y (List.mem_cons_self ..) (Sum.inr.inj c))
      simp only [hd]
      have ih := dW_get (n + 1) K z fun x hx => h x (List.mem_cons_of_mem _ hx)
      unfold getV at ih
      rw [ih]
      by_cases m : z ∈ K
      · rw [if_pos m, if_pos (List.mem_cons_of_mem _ m), List.idxOf_cons, beq_eq_false_iff_ne.mpr e, cond_false]
        congr 2
        omega
      · rw [if_neg m, if_neg (by rw [List.mem_cons]; rintro (c | c); exact e c.symm; exact m c)]
theorem dW_put {K : List (Tm × Tm)} {z : Tm × Tm} (h : ∀ y ∈ K, keyS y = keyS z → y = z) (m : z ∉ K) : putV (dW 0 K) (.inr (keyS z)) (.int (K.length : Nat)) = dW 0 (K ++ [z]) := by
  unfold putV
  rw [if_neg ?_, dW_snoc, Nat.zero_add]
  intro c
  have : ∀ (n : Nat) (K : List (Tm × Tm)), (∀ y ∈ K, keyS y = keyS z → y = z) → ((dW n K).any fun kv => decide (kv.1 = .inr (keyS z))) = true → z ∈ K := by
    intro n K
    induction K generalizing n with
    | nil => intro _ c; cases c
    | cons y K ih =>
      intro h c
      rw [dW, List.any_cons, Bool.or_eq_true] at c
      rcases c with c | c
      · exact h y (List.mem_cons_self ..) (Sum.inr.inj (of_decide_eq_true c)) ▸ List.mem_cons_self ..
      · exact List.mem_cons_of_mem _ (ih (n + 1) (fun x hx => h x (List.mem_cons_of_mem _ hx)) c)
  exact m (this 0 K h c)
theorem slot_all {P : Tm → Prop} {p q : Tm} {K : List (Tm × Tm)} (hp : P p) (hq : P q) (h : ∀ z ∈ K, P z.1 ∧ P z.2) : ∀ z ∈ (slot p q K).2, P z.1 ∧ P z.2 := by
  unfold slot
  split
  · exact h
  · intro z hz
    rcases List.mem_append.mp hz with hz | hz
    · exact h z hz
    · rw [List.mem_singleton.mp hz]; exact ⟨hp, hq⟩
mutual
theorem lgg_all {P : Tm → Prop} (sub : ∀ w ts, P (.app w ts) → ∀ t ∈ ts, P t) : ∀ (p q : Tm) (K : List (Tm × Tm)), P p → P q → (∀ z ∈ K, P z.1 ∧ P z.2) → ∀ z ∈ (lgg p q K).2, P z.1 ∧ P z.2
  | .var i, q, K, hp, hq, h => by rw [lgg]; exact slot_all hp hq h
  | .app w ts, .var j, K, hp, hq, h => by rw [lgg]; exact slot_all hp hq h
  | .app w ts, .app u us, K, hp, hq, h => by
    rw [lgg]
    split
    · exact lggs_all sub ts us K (sub _ _ hp) (sub _ _ hq) h
    · exact slot_all hp hq h
theorem lggs_all {P : Tm → Prop} (sub : ∀ w ts, P (.app w ts) → ∀ t ∈ ts, P t) : ∀ (ts us : List Tm) (K : List (Tm × Tm)), (∀ t ∈ ts, P t) → (∀ t ∈ us, P t) → (∀ z ∈ K, P z.1 ∧ P z.2) → ∀ z ∈ (lggs ts us K).2, P z.1 ∧ P z.2
  | [], _, K, _, _, h => by rw [lggs]; exact h
  | _ :: _, [], K, _, _, h => by rw [lggs]; exact h
  | t :: ts, u :: us, K, hp, hq, h => by
    rw [lggs]
    exact lggs_all sub ts us _ (fun x hx => hp x (List.mem_cons_of_mem _ hx)) (fun x hx => hq x (List.mem_cons_of_mem _ hx)) (lgg_all sub t u K (hp t (List.mem_cons_self ..)) (hq u (List.mem_cons_self ..)) h)
end
theorem slot_len {p q : Tm} {K : List (Tm × Tm)} : (slot p q K).2.length ≤ K.length + 1 := by
  unfold slot
  split
  · exact Nat.le_succ _
  · rw [List.length_append]; exact Nat.le_refl _
mutual
theorem lgg_len : ∀ (p q : Tm) (K : List (Tm × Tm)), (lgg p q K).2.length ≤ K.length + p.size
  | .var i, q, K => by rw [lgg, Tm.size]; exact slot_len
  | .app w ts, .var j, K => by
    have := @slot_len (.app w ts) (.var j) K
    rw [lgg, Tm.size]; omega
  | .app w ts, .app u us, K => by
    have h1 := @slot_len (.app w ts) (.app u us) K
    have h2 := lggs_len ts us K
    rw [lgg, Tm.size]
    split
    · show (lggs ts us K).2.length ≤ _; omega
    · omega
theorem lggs_len : ∀ (ts us : List Tm) (K : List (Tm × Tm)), (lggs ts us K).2.length ≤ K.length + Tm.sizes ts
  | [], _, K => by rw [lggs]; exact Nat.le_add_right ..
  | _ :: _, [], K => by rw [lggs]; exact Nat.le_add_right ..
  | t :: ts, u :: us, K => by
    have h1 := lgg_len t u K
    have h2 := lggs_len ts us (lgg t u K).2
    rw [lggs, Tm.sizes]
    show (lggs ts us (lgg t u K).2).2.length ≤ _
    omega
end

def wB : Vl → Bool
  | .str z => wordB z
  | _ => false
/-- what a match must give -/
def MatchOk (g t : Tm) : Option (List (Int × Tm)) → Prop
  | none => instB g t = false
  | some G => (G.map Prod.fst).Nodup ∧ (∀ i, i ∈ G.map Prod.fst ↔ i ∈ g.occ) ∧ ∀ f, g.sub f = t ↔ agree f G
def lkf (G : List (Int × Tm)) (i : Int) : Tm := (G.lookup i).getD default
theorem lk_of {G : List (Int × Tm)} (nd : (G.map Prod.fst).Nodup) : ∀ p ∈ G, G.lookup p.1 = some p.2 := by
  induction G with
  | nil => intro p h; cases h
  | cons q G ih =>
    obtain ⟨a, x⟩ := q
    intro p hp
    rw [List.map_cons, List.nodup_cons] at nd
    rw [List.lookup_cons]
    rcases List.mem_cons.mp hp with rfl | hp
    · rw [beq_self_eq_true]
    · have : p.1 ≠ a := fun e => nd.1 (List.mem_map.mpr ⟨p, hp, e⟩)
      rw [beq_eq_false_iff_ne.mpr this]
      exact ih nd.2 p hp
theorem agree_lk {G : List (Int × Tm)} (nd : (G.map Prod.fst).Nodup) : agree (lkf G) G := fun p hp => by
  unfold lkf; rw [lk_of nd p hp]; rfl
theorem MatchOk.inst {g t : Tm} : ∀ {r : Option (List (Int × Tm))}, MatchOk g t r → instB g t = r.isSome
  | none, h => h
  | some G, h => instB_iff.mpr ⟨lkf G, (h.2.2 _).mpr (agree_lk h.1)⟩
/-- the pairs still to be matched are solved -/
def solves (f : Int → Tm) (W : List (Tm × Tm)) : Prop := ∀ z ∈ W, z.1.sub f = z.2
/-- what holds between two turns -/
structure MInv (g t : Tm) (G : List (Int × Tm)) (W : List (Tm × Tm)) : Prop where
  nd : (G.map Prod.fst).Nodup
  oc : ∀ i, i ∈ g.occ ↔ i ∈ G.map Prod.fst ∨ i ∈ Tm.occs (W.map Prod.fst)
  eq : ∀ f, g.sub f = t ↔ agree f G ∧ solves f W
theorem MInv.start {g t : Tm} : MInv g t [] [(g, t)] := ⟨List.nodup_nil, fun i => by simp [Tm.occs], fun f => ⟨fun h => ⟨(fun p hp => nomatch hp), (fun z hz => by rw [List.mem_singleton.mp hz]; exact h)⟩, fun h => h.2 _ (List.mem_singleton.mpr rfl)⟩⟩
theorem MInv.done {g t : Tm} {G : List (Int × Tm)} (h : MInv g t G []) : MatchOk g t (some G) := ⟨h.nd, fun i => ⟨fun m => (h.oc i).mpr (.inl m), fun m => ((h.oc i).mp m).elim id fun m => nomatch m⟩, fun f => (h.eq f).trans ⟨fun m => m.1, fun m => ⟨m, fun z hz => nomatch hz⟩⟩⟩
theorem MInv.fail {g t : Tm} {G : List (Int × Tm)} {W : List (Tm × Tm)} (h : MInv g t G W) (n : ∀ f, agree f G → solves f W → False) : MatchOk g t none := by
  show instB g t = false
  cases e : instB g t with
  | false => rfl
  | true =>
    obtain ⟨f, hf⟩ := instB_iff.mp e
    exact (n f ((h.eq f).mp hf).1 ((h.eq f).mp hf).2).elim
theorem occs_app {l m : List Tm} : Tm.occs (l ++ m) = Tm.occs l ++ Tm.occs m := by
  induction l with
  | nil => rfl
  | cons t l ih => rw [List.cons_append, Tm.occs, ih, Tm.occs, List.append_assoc]
theorem solves_app {f : Int → Tm} {W V : List (Tm × Tm)} : solves f (W ++ V) ↔ solves f W ∧ solves f V := by
  unfold solves
  constructor
  · exact fun h => ⟨fun z hz => h z (List.mem_append_left _ hz), fun z hz => h z (List.mem_append_right _ hz)⟩
  · intro h z hz
    exact (List.mem_append.mp hz).elim (h.1 z) (h.2 z)
theorem solves_one {f : Int → Tm} {a b : Tm} : solves f [(a, b)] ↔ a.sub f = b := ⟨fun h => h _ (List.mem_singleton.mpr rfl), fun h z hz => by rw [List.mem_singleton.mp hz]; exact h⟩
theorem MInv.new {g t u : Tm} {i : Int} {G : List (Int × Tm)} {W : List (Tm × Tm)} (h : MInv g t G (W ++ [(.var i, u)])) (n : i ∉ G.map Prod.fst) : MInv g t (G ++ [(i, u)]) W := by
  refine ⟨?_, fun j => ?_, fun f => ?_⟩
  · rw [List.map_append, List.nodup_append]
    exact ⟨h.nd, by simp, fun a ha b hb e => n (by rw [List.mem_singleton.mp hb] at e; exact (show a = i from e) ▸ ha)⟩
  · rw [h.oc, List.map_append, List.map_append, occs_app, List.mem_append, List.mem_append]
    simp only [List.map_cons, List.map_nil, Tm.occs, Tm.occ, List.append_nil, List.mem_singleton]
    exact ⟨fun m => m.elim (fun m => .inl (.inl m)) fun m => m.elim .inr fun m => .inl (.inr m), fun m => m.elim (fun m => m.elim .inl fun m => .inr (.inr m)) fun m => .inr (.inl m)⟩
  · rw [h.eq, solves_app, solves_one, Tm.sub]
    constructor
    · rintro ⟨a, b, c⟩
      refine ⟨fun p hp => ?_, b⟩
      rcases List.mem_append.mp hp with hp | hp
      · exact a p hp
      · rw [List.mem_singleton.mp hp]; exact c.symm
    · rintro ⟨a, b⟩
      exact ⟨fun p hp => a p (List.mem_append_left _ hp), b, (a _ (List.mem_append_right _ (List.mem_singleton.mpr rfl))).symm⟩
theorem MInv.old {g t u : Tm} {i : Int} {G : List (Int × Tm)} {W : List (Tm × Tm)} (h : MInv g t G (W ++ [(.var i, u)])) (n : G.lookup i = some u) : MInv g t G W := by
  have m1 := look_mem n
  refine ⟨h.nd, fun j => ?_, fun f => ?_⟩
  · rw [h.oc, List.map_append, occs_app, List.mem_append]
    simp only [List.map_cons, List.map_nil, Tm.occs, Tm.occ, List.append_nil, List.mem_singleton]
    exact ⟨fun m => m.elim .inl fun m => m.elim .inr fun m => .inl (by rw [m]; exact List.mem_map_of_mem (f := Prod.fst) m1), fun m => m.elim .inl fun m => .inr (.inl m)⟩
  · rw [h.eq, solves_app, solves_one, Tm.sub]
    exact ⟨fun ⟨a, b, c⟩ => ⟨a, b⟩, fun ⟨a, b⟩ => ⟨a, b, (a.look n).symm⟩⟩
theorem MInv.clash {g t u v : Tm} {i : Int} {G : List (Int × Tm)} {W : List (Tm × Tm)} (h : MInv g t G (W ++ [(.var i, u)])) (n : G.lookup i = some v) (ne : v ≠ u) : MatchOk g t none := h.fail fun f a s => by
  have := solves_one.mp (solves_app.mp s).2
  rw [Tm.sub] at this
  exact ne ((a.look n).trans this)
theorem subs_zip {f : Int → Tm} : ∀ {ts us : List Tm}, ts.length = us.length → (Tm.subs f ts = us ↔ solves f (ts.zip us))
  | [], [], _ => ⟨(fun _ z hz => nomatch hz), fun _ => rfl⟩
  | [], _ :: _, h => by cases h
  | _ :: _, [], h => by cases h
  | t :: ts, u :: us, h => by
    rw [Tm.subs, List.cons.injEq, subs_zip (Nat.succ.inj h), List.zip_cons_cons]
    exact Iff.intro (fun m z hz => (List.mem_cons.mp hz).elim (fun e => by rw [e]; exact m.1) (m.2 z)) (fun a => And.intro (a (t, u) (List.mem_cons_self ..)) (fun z hz => a z (List.mem_cons_of_mem _ hz)))
theorem zip_fst : ∀ {α β : Type} {ts : List α} {us : List β}, ts.length = us.length → (ts.zip us).map Prod.fst = ts
  | _, _, [], [], _ => rfl
  | _, _, [], _ :: _, h => by cases h
  | _, _, _ :: _, [], h => by cases h
  | _, _, t :: ts, u :: us, h => by rw [List.zip_cons_cons, List.map_cons, zip_fst (Nat.succ.inj h)]
theorem MInv.deep {g t : Tm} {w : Str} {ts us : List Tm} {G : List (Int × Tm)} {W : List (Tm × Tm)} (h : MInv g t G (W ++ [(.app w ts, .app w us)])) (l : ts.length = us.length) : MInv g t G (W ++ ts.zip us) := by
  refine ⟨h.nd, fun j => ?_, fun f => ?_⟩
  · rw [h.oc, List.map_append, List.map_append, occs_app, occs_app, zip_fst l]
    simp [Tm.occs, Tm.occ]
  · rw [h.eq, solves_app, solves_one, solves_app, Tm.sub, Tm.app.injEq, subs_zip l]
    simp
theorem MInv.vary {g t : Tm} {w : Str} {ts : List Tm} {j : Int} {G : List (Int × Tm)} {W : List (Tm × Tm)} (h : MInv g t G (W ++ [(.app w ts, .var j)])) : MatchOk g t none := h.fail fun f a s => by
  have := solves_one.mp (solves_app.mp s).2
  rw [Tm.sub] at this
  cases this
theorem MInv.unlike {g t : Tm} {w u : Str} {ts us : List Tm} {G : List (Int × Tm)} {W : List (Tm × Tm)} (h : MInv g t G (W ++ [(.app w ts, .app u us)])) (n : w ≠ u ∨ ts.length ≠ us.length) : MatchOk g t none := h.fail fun f a s => by
  have := solves_one.mp (solves_app.mp s).2
  rw [Tm.sub, Tm.app.injEq, Tm.subs_map] at this
  rcases n with n | n
  · exact n this.1
  · exact n (by rw [← this.2, List.length_map])
theorem lk_key {α : Type} {G : List (Int × α)} {i : Int} {u : α} (e : G.lookup i = some u) : i ∈ G.map Prod.fst := by
  induction G with
  | nil => cases e
  | cons q G ih =>
    obtain ⟨a, x⟩ := q
    rw [List.lookup_cons] at e
    cases h : i == a with
    | true => rw [eq_of_beq h]; exact List.mem_cons_self ..
    | false => rw [h] at e; exact List.mem_cons_of_mem _ (ih e)
theorem lk_none {α : Type} {G : List (Int × α)} {i : Int} (e : G.lookup i = none) : i ∉ G.map Prod.fst := by
  induction G with
  | nil => exact fun h => nomatch h
  | cons q G ih =>
    obtain ⟨a, x⟩ := q
    rw [List.lookup_cons] at e
    cases h : i == a with
    | true => rw [h] at e; cases e
    | false =>
      rw [h] at e
      rw [List.map_cons, List.mem_cons]
      exact fun m => m.elim (fun m => by rw [m] at h; exact absurd (beq_self_eq_true _) (by rw [h]; exact Bool.false_ne_true)) (ih e)
def RV (v : Vl) (n m : Nat) : Prop := ∃ p, vpr v = some p ∧ p.showable = true ∧ p.leavesShort 13 = true ∧ p.depth ≤ n ∧ p.weight ≤ m
theorem RV.w {v : Vl} {n m n' m' : Nat} (h : RV v n m) (hn : n ≤ n') (hm : m ≤ m') : RV v n' m' := by
  obtain ⟨p, a, b, c, d, e⟩ := h
  exact ⟨p, a, b, c, by omega, by omega⟩
theorem RV.dK {α : Type} {g : α → Vl} {n m : Nat} : ∀ {l : List (Int × α)}, (∀ z ∈ l, z.1.natAbs < 10 ^ 12 ∧ RV (g z.2) n m) → RV (.dic (dK g l)) (n + 1) (l.length * (m + 42)) := by
  intro l h
  suffices key : ∃ ps, vprk (Mp.dK g l) = some ps ∧ PyData.showableKv ps = true ∧ PyData.leavesShortKv 13 ps = true ∧ PyData.depthKv ps ≤ n ∧ PyData.weightKv ps ≤ l.length * (m + 42) by
    obtain ⟨ps, a, b, c, d, e⟩ := key
    exact ⟨.dict ps, by rw [vpr, a]; rfl, by simpa only [PyData.showable] using b, by simpa only [PyData.leavesShort] using c, by simp only [PyData.depth]; omega, by simpa only [PyData.weight] using e⟩
  induction l with
  | nil => exact ⟨[], rfl, rfl, rfl, Nat.zero_le _, Nat.zero_le _⟩
  | cons z l ih =>
    obtain ⟨ps, a, b, c, d, e⟩ := ih fun y hy => h y (List.mem_cons_of_mem _ hy)
    obtain ⟨hk, p, a1, b1, c1, d1, e1⟩ := h z (List.mem_cons_self ..)
    have k1 : fitP (10 ^ 12 - 1) (.int z.1) = true := by simp only [fitP, decide_eq_true_eq]; omega
    have k2 : PyData.showable (.int z.1) = true := fit_show (by decide) k1
    have k3 : PyData.leavesShort 13 (.int z.1) = true := PyData.leavesShort_of_canLay0 13 _ (fit_can k1) (fit_short (by decide) k1)
    have k4 : PyData.weight (.int z.1) ≤ 40 := by
      simp only [PyData.weight]
      split
      · omega
      · have : z.1.natAbs.log2 < 40 := PySem.Flt.log2_lt_of (by decide) (Nat.lt_of_lt_of_le hk (by decide))
        omega
    refine ⟨(.int z.1, p) :: ps, ?_, ?_, ?_, ?_, ?_⟩
    · show vprk ((Sum.inl z.1, g z.2) :: Mp.dK g l) = _
      rw [vprk, a1, a]; rfl
    · simp only [PyData.showableKv, k2, b1, b, Bool.and_self]
    · simp only [PyData.leavesShortKv, k3, c1, c, Bool.and_self]
    · simp only [PyData.depthKv]
      have : PyData.depth (.int z.1) = 0 := by simp only [PyData.depth]
      omega
    · simp only [PyData.weightKv, List.length_cons]
      have : (l.length + 1) * (m + 42) = l.length * (m + 42) + (m + 42) := Nat.succ_mul ..
      omega
theorem sb_no {l : List (Int × Tm)} {i : Int} (h : i ∉ l.map Prod.fst) : sb l i = .var i := by
  unfold sb
  cases e : l.lookup i with
  | none => rfl
  | some u => exact absurd (lk_key e) h
theorem sb_at {l : List (Int × Tm)} (hl : (l.map Prod.fst).Nodup) {z : Int × Tm} (h : z ∈ l) : sb l z.1 = z.2 := by
  unfold sb; rw [lk_of hl z h]; rfl
mutual
theorem sub_var : ∀ t : Tm, t.sub .var = t
  | .var _ => rfl
  | .app w ts => by rw [Tm.sub, subs_var ts]
theorem subs_var : ∀ ts : List Tm, Tm.subs .var ts = ts
  | [] => rfl
  | t :: ts => by rw [Tm.subs, sub_var t, subs_var ts]
end
mutual
theorem ht_subT {m : Nat} {f : Int → Tm} : ∀ {t : Tm}, (∀ i ∈ t.occ, (f i).ht ≤ m + 1) → (t.sub f).ht ≤ t.ht + m
  | .var i, h => by have := h i (by simp [Tm.occ]); rw [Tm.sub, Tm.ht]; omega
  | .app w ts, h => by have := hts_subT (ts := ts) h; rw [Tm.sub, Tm.ht, Tm.ht]; omega
theorem hts_subT {m : Nat} {f : Int → Tm} : ∀ {ts : List Tm}, (∀ i ∈ Tm.occs ts, (f i).ht ≤ m + 1) → Tm.hts (Tm.subs f ts) ≤ Tm.hts ts + m
  | [], _ => Nat.zero_le _
  | t :: ts, h => by
    have h1 := ht_subT (t := t) fun i hi => h i (by rw [Tm.occs]; exact List.mem_append_left _ hi)
    have h2 := hts_subT (ts := ts) fun i hi => h i (by rw [Tm.occs]; exact List.mem_append_right _ hi)
    rw [Tm.subs, Tm.hts, Tm.hts]; omega
end
mutual
theorem size_sub {f : Int → Tm} : ∀ {t : Tm} {i : Int}, i ∈ t.occ → (f i).size ≤ (t.sub f).size
  | .var j, i, h => by rw [Tm.occ, List.mem_singleton] at h; rw [Tm.sub, h]; exact Nat.le_refl _
  | .app w ts, i, h => by have := size_subs (f := f) (ts := ts) h; rw [Tm.sub, Tm.size]; omega
theorem size_subs {f : Int → Tm} : ∀ {ts : List Tm} {i : Int}, i ∈ Tm.occs ts → (f i).size ≤ Tm.sizes (Tm.subs f ts)
  | [], _, h => nomatch h
  | t :: ts, i, h => by
    rw [Tm.occs, List.mem_append] at h
    rw [Tm.subs, Tm.sizes]
    rcases h with h | h
    · have := size_sub (f := f) h; omega
    · have := size_subs (f := f) h; omega
end
def one1 (x : Int) (u : Tm) (i : Int) : Tm := if i = x then u else .var i
/-- f takes in what s does -/
def Ab (s f : Int → Tm) : Prop := ∀ i, f i = (s i).sub f
theorem Ab.tm {s f : Int → Tm} (h : Ab s f) (t : Tm) : t.sub f = (t.sub s).sub f := by
  rw [Tm.sub_sub]; exact Tm.sub_congr fun i _ => h i
def uni (f : Int → Tm) (W : List (Tm × Tm)) : Prop := ∀ z ∈ W, z.1.sub f = z.2.sub f
theorem uni_app {f : Int → Tm} {W V : List (Tm × Tm)} : uni f (W ++ V) ↔ uni f W ∧ uni f V :=
  ⟨fun h => ⟨fun z hz => h z (List.mem_append_left _ hz), fun z hz => h z (List.mem_append_right _ hz)⟩, fun h z hz => (List.mem_append.mp hz).elim (h.1 z) (h.2 z)⟩
theorem uni_one {f : Int → Tm} {a b : Tm} : uni f [(a, b)] ↔ a.sub f = b.sub f := ⟨fun h => h _ (List.mem_singleton.mpr rfl), fun h z hz => by rw [List.mem_singleton.mp hz]; exact h⟩
def szs (f : Int → Tm) : List (Tm × Tm) → Nat
  | [] => 0
  | z :: W => (z.1.sub f).size + (z.2.sub f).size + szs f W
theorem szs_app {f : Int → Tm} {W V : List (Tm × Tm)} : szs f (W ++ V) = szs f W + szs f V := by
  induction W with
  | nil => rw [List.nil_append, szs]; omega
  | cons z W ih => rw [List.cons_append, szs, ih, szs]; omega
theorem szs_one {f : Int → Tm} {a b : Tm} : szs f [(a, b)] = (a.sub f).size + (b.sub f).size := by rw [szs, szs]; rfl
theorem szs_zip {f : Int → Tm} : ∀ {ts us : List Tm}, ts.length = us.length → szs f (ts.zip us) = Tm.sizes (Tm.subs f ts) + Tm.sizes (Tm.subs f us)
  | [], [], _ => rfl
  | [], _ :: _, h => by cases h
  | _ :: _, [], h => by cases h
  | t :: ts, u :: us, h => by
    rw [List.zip_cons_cons, szs, szs_zip (Nat.succ.inj h), Tm.subs, Tm.subs, Tm.sizes, Tm.sizes]; dsimp only; omega
theorem szs_len {f : Int → Tm} : ∀ {W : List (Tm × Tm)}, 2 * W.length ≤ szs f W
  | [] => Nat.le_refl _
  | z :: W => by
    have := szs_len (f := f) (W := W)
    have a := (z.1.sub f).size_pos
    have b := (z.2.sub f).size_pos
    rw [szs, List.length_cons]; omega
theorem uni_zip {f : Int → Tm} : ∀ {ts us : List Tm}, ts.length = us.length → (uni f (ts.zip us) ↔ Tm.subs f ts = Tm.subs f us)
  | [], [], _ => ⟨(fun _ => rfl), fun _ z hz => nomatch hz⟩
  | [], _ :: _, h => by cases h
  | _ :: _, [], h => by cases h
  | t :: ts, u :: us, h => by
    rw [List.zip_cons_cons, Tm.subs, Tm.subs, List.cons.injEq, ← uni_zip (Nat.succ.inj h)]
    exact Iff.intro (fun a => And.intro (a (t, u) (List.mem_cons_self ..)) (fun z hz => a z (List.mem_cons_of_mem _ hz))) (fun m z hz => (List.mem_cons.mp hz).elim (fun e => by rw [e]; exact m.1) (m.2 z))
/-- bindings in force, and all that they come to -/
structure Bnd (B : List (Int × Tm)) (s : Int → Tm) : Prop where
  nd : (B.map Prod.fst).Nodup
  bd : ∀ z ∈ B, s z.1 = z.2.sub s
  fr : ∀ i, i ∉ B.map Prod.fst → s i = .var i
  oc : ∀ i, ∀ j ∈ (s i).occ, j ∉ B.map Prod.fst
  rk : ∃ (r : Int → Nat) (K : Nat), (∀ z ∈ B, ∀ j ∈ z.2.occ, r j < r z.1) ∧ ∀ i, r i < K
theorem filter_lt {p q : Int → Bool} : ∀ {l : List Int}, (∀ x ∈ l, p x = true → q x = true) → (∃ x ∈ l, q x = true ∧ p x = false) → (l.filter p).length < (l.filter q).length
  | [], _, ⟨_, h, _⟩ => nomatch h
  | a :: l, h, ⟨x, hx, h1, h2⟩ => by
    have le : (l.filter p).length ≤ (l.filter q).length := by
      have : ∀ {l : List Int}, (∀ x ∈ l, p x = true → q x = true) → (l.filter p).length ≤ (l.filter q).length := by
        intro l
        induction l with
        | nil => intro _; exact Nat.le_refl _
        | cons b l ih =>
          intro h
          have := ih fun x hx => h x (List.mem_cons_of_mem _ hx)
          have hb := h b (List.mem_cons_self ..)
          rw [List.filter_cons, List.filter_cons]
          cases e : p b with
          | true => rw [hb e]; simpa using this
          | false => cases q b <;> simp <;> omega
      exact this fun x hx => h x (List.mem_cons_of_mem _ hx)
    have ha := h a (List.mem_cons_self ..)
    rw [List.filter_cons, List.filter_cons]
    rcases List.mem_cons.mp hx with rfl | hx
    · rw [h1, h2]; simp; omega
    · have := filter_lt (fun x hx => h x (List.mem_cons_of_mem _ hx)) ⟨x, hx, h1, h2⟩
      cases e : p a with
      | true => rw [ha e]; simpa using this
      | false => cases q a <;> simp <;> omega
theorem Bnd.rank {B : List (Int × Tm)} {s : Int → Tm} (h : Bnd B s) : ∃ r : Int → Nat, (∀ z ∈ B, ∀ j ∈ z.2.occ, r j < r z.1) ∧ (∀ i, r i ≤ B.length) ∧ ∀ z ∈ B, 0 < r z.1 := by
  obtain ⟨r, K, h1, _⟩ := h.rk
  refine ⟨fun i => if i ∈ B.map Prod.fst then ((B.map Prod.fst).filter fun k => decide (r k ≤ r i)).length else 0, fun z hz j hj => ?_, fun i => ?_, fun z hz => ?_⟩
  · have lt := h1 z hz j hj
    have mz : z.1 ∈ B.map Prod.fst := List.mem_map_of_mem hz
    dsimp only
    rw [if_pos mz]
    split
    · exact filter_lt (fun x _ e => by have := of_decide_eq_true e; exact decide_eq_true (by omega)) ⟨z.1, mz, decide_eq_true (Nat.le_refl _), decide_eq_false (by omega)⟩
    · exact List.length_pos_of_mem (List.mem_filter.mpr ⟨mz, decide_eq_true (Nat.le_refl _)⟩)
  · dsimp only
    split
    · have := List.length_filter_le (fun k => decide (r k ≤ r i)) (B.map Prod.fst)
      rwa [List.length_map] at this
    · exact Nat.zero_le _
  · have mz : z.1 ∈ B.map Prod.fst := List.mem_map_of_mem hz
    dsimp only
    rw [if_pos mz]
    exact List.length_pos_of_mem (List.mem_filter.mpr ⟨mz, decide_eq_true (Nat.le_refl _)⟩)
theorem Bnd.ind {B : List (Int × Tm)} {s : Int → Tm} (h : Bnd B s) {Q : Int → Prop} (h0 : ∀ i, i ∉ B.map Prod.fst → Q i) (h1 : ∀ z ∈ B, (∀ j ∈ z.2.occ, Q j) → Q z.1) (i : Int) : Q i := by
  obtain ⟨r, a, _⟩ := h.rank
  suffices w : ∀ n i, r i < n → Q i from w _ i (Nat.lt_succ_self _)
  intro n
  induction n with
  | zero => intro i hi; exact absurd hi (Nat.not_lt_zero _)
  | succ n ih =>
    intro i hi
    by_cases m : i ∈ B.map Prod.fst
    · obtain ⟨z, hz, rfl⟩ := List.mem_map.mp m
      exact h1 z hz fun j hj => ih j (by have := a z hz j hj; omega)
    · exact h0 i m
theorem Bnd.ht {B : List (Int × Tm)} {s : Int → Tm} (h : Bnd B s) {n : Nat} (hb : ∀ z ∈ B, z.2.ht ≤ n + 1) (i : Int) : (s i).ht ≤ B.length * n + 1 := by
  obtain ⟨r, a, b, c⟩ := h.rank
  suffices w : ∀ i, (s i).ht ≤ r i * n + 1 from Nat.le_trans (w i) (by have := Nat.mul_le_mul_right n (b i); omega)
  refine h.ind (fun i hi => by rw [h.fr i hi, Tm.ht]; omega) fun z hz ih => ?_
  rw [h.bd z hz]
  have c1 := c z hz
  have h1 := ht_subT (m := (r z.1 - 1) * n) (f := s) (t := z.2) fun i hi => by
    have := ih i hi
    have lt := a z hz i hi
    have := Nat.mul_le_mul_right n (show r i ≤ r z.1 - 1 by omega)
    omega
  have h2 := hb z hz
  have h3 : r z.1 * n = (r z.1 - 1) * n + n := by rw [← Nat.succ_mul]; congr 1; omega
  omega
theorem Bnd.sub_occ {B : List (Int × Tm)} {s : Int → Tm} (h : Bnd B s) {t : Tm} {j : Int} (hj : j ∈ (t.sub s).occ) : j ∉ B.map Prod.fst := by
  rw [Tm.occ_sub] at hj
  obtain ⟨i, _, hi⟩ := List.mem_flatMap.mp hj
  exact h.oc i j hi
theorem Bnd.self {B : List (Int × Tm)} {s : Int → Tm} (h : Bnd B s) : Ab s s := fun i => by
  rw [Tm.sub_congr (g := .var) fun j hj => h.fr j (h.oc i j hj), sub_var]
theorem Bnd.start : Bnd [] .var := ⟨List.nodup_nil, (fun z hz => nomatch hz), fun _ _ => rfl, (fun _ _ _ h => nomatch h), fun _ => 0, 1, (fun z hz => nomatch hz), fun _ => Nat.zero_lt_one⟩
def nxt (s : Int → Tm) (x : Int) (u : Tm) (i : Int) : Tm := (s i).sub (one1 x (u.sub s))
theorem Bnd.bind {B : List (Int × Tm)} {s : Int → Tm} {x : Int} {u : Tm} (h : Bnd B s) (hx : x ∉ B.map Prod.fst) (hu : x ∉ (u.sub s).occ) : Bnd (B ++ [(x, u)]) (nxt s x u) := by
  have kx : ∀ {j : Int}, j ∈ (B ++ [(x, u)]).map Prod.fst ↔ j ∈ B.map Prod.fst ∨ j = x := by intro j; rw [List.map_append, List.mem_append]; simp
  have su : ∀ t : Tm, t.sub (nxt s x u) = (t.sub s).sub (one1 x (u.sub s)) := fun t => by rw [Tm.sub_sub]; rfl
  refine ⟨?_, ?_, ?_, ?_, ?_⟩
  · rw [List.map_append, List.nodup_append]
    exact ⟨h.nd, by simp, fun a ha b hb e => hx (by rw [List.mem_singleton.mp hb] at e; exact (show a = x from e) ▸ ha)⟩
  · intro z hz
    rcases List.mem_append.mp hz with hz | hz
    · rw [su, ← h.bd z hz]; rfl
    · rw [List.mem_singleton.mp hz, su, Tm.sub_congr (g := .var) (t := u.sub s) fun i hi => ?_, sub_var]
      · show (s x).sub _ = _
        rw [h.fr x hx, Tm.sub]; exact if_pos rfl
      · show (if i = x then _ else _) = _; exact if_neg fun (e : i = x) => hu (e ▸ hi)
  · intro i hi
    rw [kx, not_or] at hi
    show (s i).sub _ = _
    rw [h.fr i hi.1, Tm.sub]; exact if_neg hi.2
  · intro i j hj hk
    rw [show nxt s x u i = (s i).sub (one1 x (u.sub s)) from rfl, Tm.occ_sub] at hj
    obtain ⟨k, hk1, hk2⟩ := List.mem_flatMap.mp hj
    unfold one1 at hk2
    split at hk2
    · rcases kx.mp hk with c | c
      · exact h.sub_occ hk2 c
      · exact hu (c ▸ hk2)
    · rename_i n
      rw [Tm.occ, List.mem_singleton] at hk2
      subst hk2
      exact (kx.mp hk).elim (h.oc i j hk1) n
  · obtain ⟨r, K, a, b⟩ := h.rk
    refine ⟨fun i => r i + if x ∈ (s i).occ then K else 0, K + K, fun z hz j hj => ?_, fun i => ?_⟩
    · dsimp only
      rcases List.mem_append.mp hz with hz | hz
      · have := a z hz j hj
        by_cases c : x ∈ (s j).occ
        · rw [if_pos c, if_pos (by rw [h.bd z hz, Tm.occ_sub]; exact List.mem_flatMap.mpr ⟨j, hj, c⟩)]; omega
        · rw [if_neg c]; split <;> omega
      · rw [List.mem_singleton.mp hz] at hj ⊢
        rw [if_neg fun c => hu (by rw [Tm.occ_sub]; exact List.mem_flatMap.mpr ⟨j, hj, c⟩), if_pos (by rw [h.fr x hx, Tm.occ]; exact List.mem_singleton.mpr rfl)]
        have := b j
        dsimp only; omega
    · have := b i
      dsimp only; split <;> omega
theorem Bnd.ab {B : List (Int × Tm)} {s f : Int → Tm} {x : Int} {u : Tm} (h : Bnd B s) (hx : x ∉ B.map Prod.fst) (hu : x ∉ (u.sub s).occ) : Ab (nxt s x u) f ↔ Ab s f ∧ f x = u.sub f := by
  have h' := h.bind hx hu
  have e : ∀ g : Int → Tm, g x = (u.sub s).sub g → ∀ t : Tm, (t.sub (one1 x (u.sub s))).sub g = t.sub g := fun g hg t => by
    rw [Tm.sub_sub]
    refine Tm.sub_congr fun i _ => ?_
    unfold one1
    split
    · rename_i c; rw [c]; exact hg.symm
    · rfl
  constructor
  · intro a
    have a1 : Ab s f := fun i => by
      have : (s i).sub f = ((s i).sub (nxt s x u)).sub f := a.tm _
      rw [this, a i]
      congr 1
      show _ = (s i).sub (fun j => (s j).sub (one1 x (u.sub s)))
      refine Tm.sub_congr fun j hj => ?_
      rw [h.fr j (h.oc i j hj)]; rfl
    refine ⟨a1, ?_⟩
    have : f x = (nxt s x u x).sub f := a x
    rw [this, show nxt s x u x = u.sub s from ?_, ← a1.tm u]
    show (s x).sub _ = _
    rw [h.fr x hx, Tm.sub]; exact if_pos rfl
  · rintro ⟨a, b⟩ i
    show _ = ((s i).sub _).sub f
    rw [e f (by rw [b]; exact a.tm u), ← a i]
/-- what a term stands for at its top -/
structure Rs (B : List (Int × Tm)) (s : Int → Tm) (t r : Tm) : Prop where
  eq : r.sub s = t.sub s
  fr : ∀ j, r = .var j → j ∉ B.map Prod.fst
  of : r = t ∨ ∃ z ∈ B, r = z.2
theorem Rs.at {B : List (Int × Tm)} {s : Int → Tm} {t r : Tm} (h : Rs B s t r) {P : Tm → Prop} (ht : P t) (hb : ∀ z ∈ B, P z.2) : P r := by
  rcases h.of with e | ⟨z, hz, e⟩
  · rw [e]; exact ht
  · rw [e]; exact hb z hz
structure UInv (E : List (Tm × Tm)) (B : List (Int × Tm)) (s : Int → Tm) (W : List (Tm × Tm)) : Prop where
  b : Bnd B s
  eq : ∀ f, uni f E ↔ Ab s f ∧ uni f W
  sz : ∀ f, Ab s f → szs f W ≤ szs f E
  pt : ∀ P : Tm → Prop, (∀ w ts, P (.app w ts) → ∀ t ∈ ts, P t) → (∀ z ∈ E, P z.1 ∧ P z.2) → (∀ z ∈ W, P z.1 ∧ P z.2) ∧ ∀ z ∈ B, P (.var z.1) ∧ P z.2
section
variable {E W : List (Tm × Tm)} {B : List (Int × Tm)} {s : Int → Tm} {a b : Tm}
theorem UInv.start : UInv E [] .var E := ⟨.start, fun f => ⟨(fun h => ⟨fun i => rfl, h⟩), fun h => h.2⟩, fun f _ => Nat.le_refl _, fun P _ h => ⟨h, fun z hz => nomatch hz⟩⟩
theorem UInv.lead (h : UInv E B s (W ++ [(a, b)])) {r q : Tm} (ha : Rs B s a r) (hb : Rs B s b q) : UInv E B s (W ++ [(r, q)]) := by
  have e : ∀ f, Ab s f → r.sub f = a.sub f ∧ q.sub f = b.sub f := fun f hf => by
    rw [hf.tm r, hf.tm q, ha.eq, hb.eq, ← hf.tm, ← hf.tm]; exact ⟨rfl, rfl⟩
  refine ⟨h.b, fun f => ?_, fun f hf => ?_, fun P p hE => ?_⟩
  · rw [h.eq, uni_app, uni_app, uni_one, uni_one]
    exact and_congr_right fun hf => by rw [(e f hf).1, (e f hf).2]
  · have := h.sz f hf
    rw [szs_app, szs_one] at this ⊢
    rw [(e f hf).1, (e f hf).2]; exact this
  · obtain ⟨h1, h2⟩ := h.pt P p hE
    refine ⟨fun z hz => ?_, h2⟩
    rcases List.mem_append.mp hz with hz | hz
    · exact h1 z (List.mem_append_left _ hz)
    · rw [List.mem_singleton.mp hz]
      have := h1 (a, b) (List.mem_append_right _ (List.mem_singleton.mpr rfl))
      exact ⟨ha.at this.1 fun z hz => (h2 z hz).2, hb.at this.2 fun z hz => (h2 z hz).2⟩
theorem UInv.swap (h : UInv E B s (W ++ [(a, b)])) : UInv E B s (W ++ [(b, a)]) := by
  refine ⟨h.b, fun f => ?_, fun f hf => ?_, fun P p hE => ?_⟩
  · rw [h.eq, uni_app, uni_app, uni_one, uni_one, eq_comm (a := a.sub f)]
  · have := h.sz f hf
    rw [szs_app, szs_one] at this ⊢
    omega
  · obtain ⟨h1, h2⟩ := h.pt P p hE
    refine ⟨fun z hz => ?_, h2⟩
    rcases List.mem_append.mp hz with hz | hz
    · exact h1 z (List.mem_append_left _ hz)
    · rw [List.mem_singleton.mp hz]
      exact (h1 (a, b) (List.mem_append_right _ (List.mem_singleton.mpr rfl))).symm
theorem UInv.skip (h : UInv E B s (W ++ [(a, b)])) (e : a.sub s = b.sub s) : UInv E B s W := by
  refine ⟨h.b, fun f => ?_, fun f hf => ?_, fun P p hE => ?_⟩
  · rw [h.eq, uni_app, uni_one]
    exact and_congr_right fun hf => ⟨fun m => m.1, fun m => ⟨m, by rw [hf.tm a, e, ← hf.tm]⟩⟩
  · have := h.sz f hf
    rw [szs_app] at this
    omega
  · obtain ⟨h1, h2⟩ := h.pt P p hE
    exact ⟨fun z hz => h1 z (List.mem_append_left _ hz), h2⟩
theorem UInv.bind {x : Int} {u : Tm} (h : UInv E B s (W ++ [(.var x, u)])) (hx : x ∉ B.map Prod.fst) (hu : x ∉ (u.sub s).occ) : UInv E (B ++ [(x, u)]) (nxt s x u) W := by
  refine ⟨h.b.bind hx hu, fun f => ?_, fun f hf => ?_, fun P p hE => ?_⟩
  · rw [h.eq, uni_app, uni_one, Tm.sub, h.b.ab hx hu]
    exact ⟨fun m => ⟨⟨m.1, m.2.2⟩, m.2.1⟩, fun m => ⟨m.1.1, m.2, m.1.2⟩⟩
  · have := h.sz f ((h.b.ab hx hu).mp hf).1
    rw [szs_app] at this
    omega
  · obtain ⟨h1, h2⟩ := h.pt P p hE
    refine ⟨fun z hz => h1 z (List.mem_append_left _ hz), fun z hz => ?_⟩
    rcases List.mem_append.mp hz with hz | hz
    · exact h2 z hz
    · rw [List.mem_singleton.mp hz]
      exact h1 (.var x, u) (List.mem_append_right _ (List.mem_singleton.mpr rfl))
theorem UInv.fail (h : UInv E B s W) (n : ∀ f, Ab s f → ¬uni f W) : ∀ f, ¬uni f E := fun f m => n f ((h.eq f).mp m).1 ((h.eq f).mp m).2
theorem UInv.cycle {x : Int} {w : Str} {ts : List Tm} (h : UInv E B s (W ++ [(.var x, .app w ts)])) (hu : x ∈ ((Tm.app w ts).sub s).occ) : ∀ f, ¬uni f E := h.fail fun f hf m => by
  have m := uni_one.mp (uni_app.mp m).2
  rw [hf.tm (.app w ts), Tm.sub] at m
  have e := congrArg Tm.size m
  rw [Tm.sub, Tm.sub, Tm.size] at e
  rw [Tm.sub, Tm.occ] at hu
  have := size_subs (f := f) hu
  omega
theorem UInv.clash {w v : Str} {ts us : List Tm} (h : UInv E B s (W ++ [(.app w ts, .app v us)])) (n : w ≠ v ∨ ts.length ≠ us.length) : ∀ f, ¬uni f E := h.fail fun f hf m => by
  have m := uni_one.mp (uni_app.mp m).2
  rw [Tm.sub, Tm.sub, Tm.app.injEq, Tm.subs_map, Tm.subs_map] at m
  rcases n with n | n
  · exact n m.1
  · exact n (by have := congrArg List.length m.2; rwa [List.length_map, List.length_map] at this)
theorem UInv.deep {w : Str} {ts us : List Tm} (h : UInv E B s (W ++ [(.app w ts, .app w us)])) (l : ts.length = us.length) : UInv E B s (W ++ ts.zip us) := by
  refine ⟨h.b, fun f => ?_, fun f hf => ?_, fun P p hE => ?_⟩
  · rw [h.eq, uni_app, uni_app, uni_one, uni_zip l, Tm.sub, Tm.sub, Tm.app.injEq]
    simp
  · have := h.sz f hf
    rw [szs_app, szs_one, Tm.sub, Tm.sub, Tm.size, Tm.size] at this
    rw [szs_app, szs_zip l]
    omega
  · obtain ⟨h1, h2⟩ := h.pt P p hE
    refine ⟨fun z hz => ?_, h2⟩
    rcases List.mem_append.mp hz with hz | hz
    · exact h1 z (List.mem_append_left _ hz)
    · have := h1 (.app w ts, .app w us) (List.mem_append_right _ (List.mem_singleton.mpr rfl))
      have m := List.of_mem_zip (a := z.1) (b := z.2) hz
      exact ⟨p w ts this.1 _ m.1, p w us this.2 _ m.2⟩
/-- what a unifier must be -/
def UniOk (E : List (Tm × Tm)) : Option (List (Int × Tm) × (Int → Tm)) → Prop
  | none => ∀ f, ¬uni f E
  | some (B, s) => UInv E B s []
theorem UInv.nil (h : UInv E B s []) {f : Int → Tm} : uni f E ↔ Ab s f := (h.eq f).trans ⟨fun m => m.1, fun m => ⟨m, fun z hz => nomatch hz⟩⟩
theorem UInv.self (h : UInv E B s []) : uni s E := h.nil.mpr h.b.self
end

inductive Pt where
  | leaf (w : Str) | node (w : Str) (ts : List Pt)
  deriving Inhabited
mutual
def Pt.v : Pt → Vl
  | .leaf w => .str w
  | .node w ts => .tup (.str w :: Pt.vs ts)
def Pt.vs : List Pt → List Vl
  | [] => []
  | t :: ts => t.v :: Pt.vs ts
end
theorem Pt.vs_map : ∀ ts : List Pt, Pt.vs ts = ts.map Pt.v
  | [] => rfl
  | t :: ts => by rw [Pt.vs, Pt.vs_map ts]; rfl
mutual
/-- makers have their arguments, names are words -/
def Pt.ok (ar : Str → Option Nat) : Pt → Bool
  | .leaf w => wordB w
  | .node w ts => decide (ar w = some ts.length) && wordB w && Pt.oks ar ts
def Pt.oks (ar : Str → Option Nat) : List Pt → Bool
  | [] => true
  | t :: ts => t.ok ar && Pt.oks ar ts
end
theorem Pt.oks_all {ar : Str → Option Nat} : ∀ ts : List Pt, Pt.oks ar ts = ts.all (Pt.ok ar)
  | [] => rfl
  | t :: ts => by rw [Pt.oks, Pt.oks_all ts]; rfl
mutual
def Pt.clo : Pt → Bool
  | .leaf _ => false
  | .node _ ts => Pt.clos ts
def Pt.clos : List Pt → Bool
  | [] => true
  | t :: ts => t.clo && Pt.clos ts
end
theorem Pt.clos_all : ∀ ts : List Pt, Pt.clos ts = ts.all Pt.clo
  | [] => rfl
  | t :: ts => by rw [Pt.clos, Pt.clos_all ts]; rfl
mutual
def Pt.ht : Pt → Nat
  | .leaf _ => 1
  | .node _ ts => 1 + Pt.hts ts
def Pt.hts : List Pt → Nat
  | [] => 0
  | t :: ts => max t.ht (Pt.hts ts)
end
theorem Pt.hts_le {n : Nat} : ∀ {ts : List Pt}, Pt.hts ts ≤ n ↔ ∀ t ∈ ts, t.ht ≤ n
  | [] => by simp [Pt.hts]
  | t :: ts => by
    have := Pt.hts_le (n := n) (ts := ts)
    simp only [Pt.hts, List.mem_cons, forall_eq_or_imp, ← this]; omega
mutual
def Pt.size : Pt → Nat
  | .leaf _ => 1
  | .node _ ts => 1 + Pt.sizes ts
def Pt.sizes : List Pt → Nat
  | [] => 0
  | t :: ts => t.size + Pt.sizes ts
end
theorem Pt.size_mem : ∀ {ts : List Pt} {t : Pt}, t ∈ ts → t.size ≤ Pt.sizes ts
  | x :: xs, t, h => by
    simp only [Pt.sizes]
    rcases List.mem_cons.mp h with rfl | h
    · omega
    · have := Pt.size_mem h; omega
theorem Pt.size_pos (t : Pt) : 1 ≤ t.size := by cases t <;> simp only [Pt.size] <;> omega
theorem Pt.ht_pos (t : Pt) : 1 ≤ t.ht := by cases t <;> simp only [Pt.ht] <;> omega
theorem Pt.sizes_len : ∀ ts : List Pt, ts.length ≤ Pt.sizes ts
  | [] => by simp
  | t :: ts => by have := Pt.sizes_len ts; have := t.size_pos; simp only [Pt.sizes, List.length_cons]; omega
theorem Pt.sizes_app : ∀ a b : List Pt, Pt.sizes (a ++ b) = Pt.sizes a + Pt.sizes b
  | [], b => by simp [Pt.sizes]
  | x :: a, b => by simp only [List.cons_append, Pt.sizes, Pt.sizes_app a b]; omega
def Pt.kid : Pt → Nat → Pt
  | .node _ ts, i => (ts[i - 1]?).getD default
  | .leaf _, _ => default
def Pt.kids : Pt → Nat
  | .node _ ts => ts.length
  | .leaf _ => 0
def Pt.at : Pt → List Nat → Pt
  | t, [] => t
  | t, i :: p => Pt.at (t.kid i) p
def Pt.has : Pt → List Nat → Prop
  | _, [] => True
  | t, i :: p => (1 ≤ i ∧ i ≤ t.kids) ∧ Pt.has (t.kid i) p
mutual
theorem Pt.plain : ∀ {t : Pt}, t.size ≤ 2 ^ 20 → Mp.plain t.v = true
  | .leaf i, _ => rfl
  | .node w ts, h => by
    rw [Pt.size] at h
    have := Pt.sizes_len ts
    rw [Pt.v, Mp.plain, Mp.plains, Pt.plains (by omega), Bool.and_eq_true, decide_eq_true_eq, List.length_cons, Pt.vs_map, List.length_map]
    exact ⟨rfl, by omega⟩
theorem Pt.plains : ∀ {ts : List Pt}, Pt.sizes ts ≤ 2 ^ 20 → Mp.plains (Pt.vs ts) = true
  | [], _ => rfl
  | t :: ts, h => by
    rw [Pt.sizes] at h
    rw [Pt.vs, Mp.plains, Pt.plain (by omega), Pt.plains (by omega)]; rfl
end
mutual
theorem Pt.dep : ∀ {t : Pt}, vdep t.v ≤ t.ht
  | .leaf i => Nat.zero_le _
  | .node w ts => by
    have := Pt.deps (ts := ts)
    rw [Pt.v, vdep, vdeps, Pt.ht]
    have : vdep (Vl.str w) = 0 := rfl
    omega
theorem Pt.deps : ∀ {ts : List Pt}, vdeps (Pt.vs ts) ≤ Pt.hts ts
  | [] => Nat.zero_le _
  | t :: ts => by
    have := Pt.dep (t := t)
    have := Pt.deps (ts := ts)
    rw [Pt.vs, vdeps, Pt.hts]; omega
end
mutual
def Pt.wd : Pt → Bool
  | .leaf w => wordB w
  | .node w ts => wordB w && Pt.wds ts
def Pt.wds : List Pt → Bool
  | [] => true
  | t :: ts => t.wd && Pt.wds ts
end
theorem Pt.wds_all : ∀ ts : List Pt, Pt.wds ts = ts.all Pt.wd
  | [] => rfl
  | t :: ts => by rw [Pt.wds, Pt.wds_all ts]; rfl
def Pt.args : Pt → List Pt
  | .leaf _ => []
  | .node _ ts => ts
mutual
/-- the place of the first call whose arguments have none -/
def Pt.nxt (N : List Str) : Pt → Option (List Nat)
  | .leaf _ => none
  | .node w ts => match Pt.nxts N 1 ts with
    | some p => some p
    | none => if w ∈ N then some [] else none
def Pt.nxts (N : List Str) : Nat → List Pt → Option (List Nat)
  | _, [] => none
  | i, t :: ts => match t.nxt N with
    | some p => some (i :: p)
    | none => Pt.nxts N (i + 1) ts
end
theorem tidy_two {us vs : List Tm} {s t : Int → Tm} (e : Tm.subs t us = vs) (e' : Tm.subs s vs = us) : tidy us = tidy vs := by
  have back : Tm.subs (fun i => (t i).sub s) us = us := by rw [← Tm.subs_subs, e, e']
  have key : ∀ i ∈ Tm.occs us, (t i).sub s = .var i := by
    suffices w : (∀ t : Tm, ∀ f : Int → Tm, t.sub f = t → ∀ i ∈ t.occ, f i = .var i) ∧ ∀ ts : List Tm, ∀ f : Int → Tm, Tm.subs f ts = ts → ∀ i ∈ Tm.occs ts, f i = .var i from w.2 us _ back
    exact ⟨same1, same2⟩
  have vs' : vs = Tm.subs (vr fun i => match t i with | .var j => j | _ => 0) us := by
    rw [← e]
    refine Tm.subs_congr fun i hi => ?_
    have := key i hi
    show t i = .var (match t i with | .var j => j | _ => 0)
    cases c : t i with
    | var j => rfl
    | app w ts => rw [c, Tm.sub] at this; cases this
  rw [vs', tidy_rn]
  intro i hi j hj eq
  have a := key i hi
  have b := key j hj
  cases c : t i with
  | app w ts => rw [c, Tm.sub] at a; cases a
  | var k =>
    cases d : t j with
    | app w ts => rw [d, Tm.sub] at b; cases b
    | var l =>
      rw [c] at a
      rw [d] at b
      rw [c, d] at eq
      have eq : k = l := eq
      subst eq
      exact Tm.var.inj (a.symm.trans b)
where
  same1 : ∀ t : Tm, ∀ f : Int → Tm, t.sub f = t → ∀ i ∈ t.occ, f i = .var i
    | .var j, f, h, i, hi => by rw [Tm.occ, List.mem_singleton] at hi; rw [hi]; exact h
    | .app w ts, f, h, i, hi => by rw [Tm.sub, Tm.app.injEq] at h; exact same2 ts f h.2 i hi
  same2 : ∀ ts : List Tm, ∀ f : Int → Tm, Tm.subs f ts = ts → ∀ i ∈ Tm.occs ts, f i = .var i
    | [], _, _, _, hi => nomatch hi
    | t :: ts, f, h, i, hi => by
      rw [Tm.subs, List.cons.injEq] at h
      rw [Tm.occs, List.mem_append] at hi
      exact hi.elim (same1 t f h.1 i) (same2 ts f h.2 i)
def td (t : Tm) : Tm := (tidy [t]).headD default
theorem td_is (t : Tm) : ∃ g : Int → Nat, tidy [t] = [td t] ∧ td t = t.sub (vr fun i => (g i : Int)) ∧ ∀ x ∈ t.occ, ∀ y ∈ t.occ, g x = g y → x = y := by
  obtain ⟨g, h1, h2⟩ := tidy_one t
  have e : td t = t.sub (vr fun i => (g i : Int)) := by unfold td; rw [h1]; rfl
  exact ⟨g, by rw [h1, e], e, h2⟩
theorem inst_refl (t : Tm) : instB t t = true := instB_iff.mpr ⟨.var, sub_var t⟩
theorem inst_trans {a b c : Tm} (h : instB a b = true) (k : instB b c = true) : instB a c = true := by
  obtain ⟨f, rfl⟩ := instB_iff.mp h
  obtain ⟨g, rfl⟩ := instB_iff.mp k
  exact instB_iff.mpr ⟨_, Tm.sub_sub.symm⟩
theorem td_eq {a b : Tm} (h : instB a b = true) (k : instB b a = true) : td a = td b := by
  obtain ⟨f, ef⟩ := instB_iff.mp h
  obtain ⟨g, eg⟩ := instB_iff.mp k
  have := tidy_two (us := [a]) (vs := [b]) (t := f) (s := g) (by rw [Tm.subs, ef]; rfl) (by rw [Tm.subs, eg]; rfl)
  unfold td; rw [this]
theorem td_low (t : Tm) : instB t (td t) = true ∧ instB (td t) t = true := by
  obtain ⟨g, _, e, inj⟩ := td_is t
  refine ⟨instB_iff.mpr ⟨_, e.symm⟩, ?_⟩
  classical
  refine instB_iff.mpr ⟨fun j => if h : ∃ x ∈ t.occ, (g x : Int) = j then .var h.choose else default, ?_⟩
  rw [e, Tm.sub_sub]
  refine (Tm.sub_congr fun i hi => ?_).trans (sub_var t)
  show dite _ _ _ = _
  have hx : ∃ x ∈ t.occ, (g x : Int) = (g i : Int) := ⟨i, hi, rfl⟩
  rw [dif_pos hx]
  have := hx.choose_spec
  rw [inj _ this.1 i hi (by exact_mod_cast this.2)]
theorem td_td (t : Tm) : td (td t) = td t := td_eq (td_low t).2 (td_low t).1
/-- the instances of what may be there -/
def dn (r : Option Tm) (t : Tm) : Prop := ∃ m, r = some m ∧ instB m t = true
theorem dn_some {m t : Tm} : dn (some m) t ↔ instB m t = true := ⟨fun ⟨_, e, h⟩ => by cases e; exact h, fun h => ⟨m, rfl, h⟩⟩
theorem dn_none {t : Tm} : ¬ dn none t := fun ⟨_, e, _⟩ => by cases e
/-- the tidy term of all common instances -/
structure MeetO (p q r : Option Tm) : Prop where
  td : ∀ m, r = some m → Mp.td m = m
  eq : ∀ t, dn r t ↔ dn p t ∧ dn q t
theorem dn_uniq {r r' : Option Tm} (h : ∀ m, r = some m → td m = m) (h' : ∀ m, r' = some m → td m = m) (e : ∀ t, dn r t ↔ dn r' t) : r = r' := by
  cases r with
  | none =>
    cases r' with
    | none => rfl
    | some m => exact absurd ((e m).mpr (dn_some.mpr (inst_refl m))) dn_none
  | some m =>
    cases r' with
    | none => exact absurd ((e m).mp (dn_some.mpr (inst_refl m))) dn_none
    | some m' =>
      have a := dn_some.mp ((e m).mp (dn_some.mpr (inst_refl m)))
      have b := dn_some.mp ((e m').mpr (dn_some.mpr (inst_refl m')))
      rw [← h m rfl, ← h' m' rfl, td_eq b a]
theorem MeetO.none {p q : Option Tm} (h : p = Option.none ∨ q = Option.none) : MeetO p q Option.none :=
  ⟨fun m e => (by cases e), fun t => ⟨fun h => absurd h dn_none, fun ⟨a, b⟩ => absurd (h.elim (fun e => e ▸ a) (fun e => e ▸ b)) (dn_none (t := t))⟩⟩
theorem MeetO.uniq {p q p' q' r r' : Option Tm} (h : MeetO p q r) (h' : MeetO p' q' r') (e : ∀ t, dn p t ∧ dn q t ↔ dn p' t ∧ dn q' t) : r = r' := dn_uniq h.td h'.td fun t => (h.eq t).trans ((e t).trans (h'.eq t).symm)
theorem MeetO.comm {p q r r' : Option Tm} (h : MeetO p q r) (h' : MeetO q p r') : r' = r := h'.uniq h fun t => and_comm
theorem MeetO.assoc {p q r b c x y : Option Tm} (hb : MeetO p q b) (hc : MeetO q r c) (hx : MeetO b r x) (hy : MeetO p c y) : x = y := hx.uniq hy fun t => by rw [hb.eq, hc.eq, and_assoc]
theorem MeetO.low {p q : Tm} {r : Option Tm} (h : MeetO (some p) (some q) r) (k : instB q p = true) : r = some (Mp.td p) := dn_uniq h.td (fun m e => by cases e; exact td_td p) fun t => by
  rw [h.eq, dn_some, dn_some, dn_some]
  exact ⟨fun m => inst_trans (td_low p).2 m.1, fun m => have z := inst_trans (td_low p).1 m; ⟨z, inst_trans k z⟩⟩
theorem joinT_td (p q : Tm) : td (joinT p q) = joinT p q := td_td (lgg p q []).1
theorem up_uniq {j j' : Tm} (h : td j = j) (h' : td j' = j') (e : ∀ o, instB o j = true ↔ instB o j' = true) : j = j' := by
  rw [← h, ← h', td_eq ((e j).mp (inst_refl j)) ((e j').mpr (inst_refl j'))]
theorem join_up {p q o : Tm} : instB o (joinT p q) = true ↔ instB o p = true ∧ instB o q = true := ⟨fun h => ⟨inst_trans h join_le.1, inst_trans h join_le.2⟩, fun h => join_least h.1 h.2⟩
theorem join_comm (p q : Tm) : joinT q p = joinT p q := up_uniq (joinT_td _ _) (joinT_td _ _) fun o => by rw [join_up, join_up, and_comm]
theorem join_assoc (p q r : Tm) : joinT (joinT p q) r = joinT p (joinT q r) := up_uniq (joinT_td _ _) (joinT_td _ _) fun o => by rw [join_up, join_up, join_up, join_up, and_assoc]
theorem join_low {p q : Tm} (h : instB p q = true) : joinT p q = td p := up_uniq (joinT_td _ _) (td_td _) fun o => by
  rw [join_up]
  exact ⟨fun m => inst_trans m.1 (td_low p).1, fun m => have z := inst_trans m (td_low p).2; ⟨z, inst_trans z h⟩⟩
mutual
def Tm.sbt : Tm → List Tm
  | .var _ => []
  | .app w ts => (if ts.isEmpty then [] else [.app w ts]) ++ Tm.sbts ts
def Tm.sbts : List Tm → List Tm
  | [] => []
  | t :: ts => t.sbt ++ Tm.sbts ts
end
theorem Tm.sbts_mem {u : Tm} : ∀ {ts : List Tm}, u ∈ Tm.sbts ts ↔ ∃ t ∈ ts, u ∈ t.sbt
  | [] => by simp [Tm.sbts]
  | t :: ts => by rw [Tm.sbts, List.mem_append, Tm.sbts_mem (ts := ts)]; simp
theorem Tm.sbt_down {w : Str} {ts : List Tm} {t u : Tm} (ht : t ∈ ts) (hu : u ∈ t.sbt) : u ∈ (Tm.app w ts).sbt := by
  rw [Tm.sbt, List.mem_append, Tm.sbts_mem]
  exact .inr ⟨t, ht, hu⟩
mutual
theorem Tm.sbt_sub {f : Int → Tm} {u : Tm} : ∀ {t : Tm}, u ∈ (t.sub f).sbt → (∃ v ∈ t.sbt, u = v.sub f) ∨ ∃ i ∈ t.occ, u ∈ (f i).sbt
  | .var i, h => .inr ⟨i, by rw [Tm.occ]; exact List.mem_singleton.mpr rfl, h⟩
  | .app w ts, h => by
    rw [Tm.sub, Tm.sbt, List.mem_append] at h
    rcases h with h | h
    · split at h
      · exact nomatch h
      · rename_i c
        refine .inl ⟨.app w ts, ?_, by rw [List.mem_singleton.mp h, Tm.sub]⟩
        rw [Tm.sbt, if_neg (by rw [Tm.subs_map, List.isEmpty_map] at c; exact c)]
        exact List.mem_append_left _ (List.mem_singleton.mpr rfl)
    · rcases Tm.sbts_sub h with ⟨v, hv, e⟩ | h
      · exact .inl ⟨v, by rw [Tm.sbt]; exact List.mem_append_right _ hv, e⟩
      · exact .inr (by rw [Tm.occ]; exact h)
theorem Tm.sbts_sub {f : Int → Tm} {u : Tm} : ∀ {ts : List Tm}, u ∈ Tm.sbts (Tm.subs f ts) → (∃ v ∈ Tm.sbts ts, u = v.sub f) ∨ ∃ i ∈ Tm.occs ts, u ∈ (f i).sbt
  | [], h => nomatch h
  | t :: ts, h => by
    rw [Tm.subs, Tm.sbts, List.mem_append] at h
    rw [Tm.sbts, Tm.occs]
    rcases h with h | h
    · rcases Tm.sbt_sub h with ⟨v, hv, e⟩ | ⟨i, hi, e⟩
      · exact .inl ⟨v, List.mem_append_left _ hv, e⟩
      · exact .inr ⟨i, List.mem_append_left _ hi, e⟩
    · rcases Tm.sbts_sub h with ⟨v, hv, e⟩ | ⟨i, hi, e⟩
      · exact .inl ⟨v, List.mem_append_right _ hv, e⟩
      · exact .inr ⟨i, List.mem_append_right _ hi, e⟩
end
mutual
theorem Tm.sbt_le {c : List (Str × Int)} (hc : ∀ z ∈ c, z.2 ≤ 2) : ∀ {t : Tm}, t.ok c = true → t.sbt.length + 1 ≤ 2 ^ (t.ht - 1)
  | .var _, _ => by simp [Tm.sbt, Tm.ht]
  | .app w ts, h => by
    simp only [Tm.ok, Bool.and_eq_true, decide_eq_true_eq] at h
    have h2 := Tm.sbts_le hc h.2
    have hl := hc _ (mem_lookup h.1)
    have hlen : ts.length ≤ 2 := by simp only at hl; omega
    rw [Tm.ht, Nat.add_sub_cancel_left, Tm.sbt, List.length_append]
    cases ts with
    | nil => simp [Tm.sbts, Tm.hts]
    | cons t r =>
      have hp : 1 ≤ t.ht := by cases t <;> simp only [Tm.ht] <;> omega
      have hh : t.ht ≤ Tm.hts (t :: r) := Tm.hts_le.mp (Nat.le_refl _) t (List.mem_cons_self ..)
      obtain ⟨j, ej⟩ : ∃ j, Tm.hts (t :: r) = j + 1 := ⟨Tm.hts (t :: r) - 1, by omega⟩
      rw [ej] at h2 ⊢
      rw [Nat.add_sub_cancel] at h2
      have e2 : 2 ^ (j + 1) = 2 ^ j * 2 := Nat.pow_succ ..
      have e1 : 1 ≤ 2 ^ j := Nat.one_le_two_pow
      simp only [List.length_cons] at h2 hlen
      have : r.length = 0 ∨ r.length = 1 := by omega
      rcases this with e | e <;> rw [e] at h2 <;> simp <;> omega
theorem Tm.sbts_le {c : List (Str × Int)} (hc : ∀ z ∈ c, z.2 ≤ 2) : ∀ {ts : List Tm}, Tm.oks c ts = true → (Tm.sbts ts).length + ts.length ≤ ts.length * 2 ^ (Tm.hts ts - 1)
  | [], _ => by simp [Tm.sbts]
  | t :: ts, h => by
    simp only [Tm.oks, Bool.and_eq_true] at h
    have h1 := Tm.sbt_le hc h.1
    have h2 := Tm.sbts_le hc h.2
    rw [Tm.sbts, List.length_append, List.length_cons, Nat.add_mul]
    have a1 : 2 ^ (t.ht - 1) ≤ 2 ^ (Tm.hts (t :: ts) - 1) := Nat.pow_le_pow_right (by decide) (by rw [Tm.hts]; omega)
    have a2 : 2 ^ (Tm.hts ts - 1) ≤ 2 ^ (Tm.hts (t :: ts) - 1) := Nat.pow_le_pow_right (by decide) (by rw [Tm.hts]; omega)
    have a3 : ts.length * 2 ^ (Tm.hts ts - 1) ≤ ts.length * 2 ^ (Tm.hts (t :: ts) - 1) := Nat.mul_le_mul_left _ a2
    omega
end
/-- few parts -/
def cap (t : Tm) (N : Nat) : Prop := ∃ U : List Tm, U.length ≤ N ∧ ∀ u ∈ t.sbt, u ∈ U
theorem cap.w {t : Tm} {N M : Nat} (h : cap t N) (l : N ≤ M) : cap t M := let ⟨U, a, b⟩ := h; ⟨U, by omega, b⟩
theorem cap.sub {t : Tm} {N M : Nat} (h : cap t N) {f : Int → Tm} {V : List Tm} (hV : V.length ≤ M) (hf : ∀ i ∈ t.occ, ∀ u ∈ (f i).sbt, u ∈ V) : cap (t.sub f) (N + M) := by
  obtain ⟨U, a, b⟩ := h
  refine ⟨U.map (Tm.sub f) ++ V, by rw [List.length_append, List.length_map]; omega, fun u hu => ?_⟩
  rcases Tm.sbt_sub hu with ⟨v, hv, rfl⟩ | ⟨i, hi, hu⟩
  · exact List.mem_append_left _ (List.mem_map.mpr ⟨v, b v hv, rfl⟩)
  · exact List.mem_append_right _ (hf i hi u hu)
theorem cap.rn {t : Tm} {N : Nat} (h : cap t N) {g : Int → Int} : cap (t.sub (vr g)) N := h.sub (V := []) (M := 0) (Nat.le_refl _) fun i _ u hu => by
  rw [vr, Tm.sbt] at hu; exact hu

local macro_rules | `(tactic| walk_at "k") => `(tactic| first | rw [K_occurrences] | rw [K_substituted] | rw [K_shifted] | rw [K_distinct] | rw [K_write_term] | rw [K_resolved] | rw [K_occurs] | rw [K_settled] | rw [K_unifier] | rw [K_tidied] | rw [K_above] | rw [K_joined] | rw [K_match] | rw [K__law_same] | rw [K__law_spread] | rw [K__law_draw] | rw [K__law_spelled] | rw [K__law_words] | rw [K__law_pick] | rw [K__law_term] | rw [K__law_is_integer] | rw [K__law_occurrences] | rw [K__law_unlike] | rw [K__law_replace] | rw [K__law_numbers] | rw [K__law_moved] | rw [K__law_taken] | rw [K__law_is_instance] | rw [K_meet] | rw [K__law_pool] | rw [K__law_constructors] | rw [K__law_renumbered] | rw [K__law_alike] | rw [K__law_meet_of] | rw [K_join] | rw [K_same_up_to_names] | rw [fresh_call, R_distinct] | rw [fresh_call, R__law_pool])
local macro_rules | `(tactic| walk_at "n") => `(tactic| try dsimp only [startV_1, startV_2, startV_3, startV_4, startV_5, startV_6, startV_7, List.set, List.replicate, Nat.reduceSub, N_distinct, N_occurrences, N_substituted, N_shifted, N_above, N_tidied, N_write_term, N_resolved, N_occurs, N_settled, N_unifier, N_match, N_meet, N_joined, N_join, N_same_up_to_names, N__law_same, N__law_is_integer, N__law_pool, N__law_spread, N__law_draw, N__law_pick, N__law_spelled, N__law_words, N__law_constructors, N__law_term, N__law_occurrences, N__law_unlike, N__law_numbers, N__law_replace, N__law_renumbered, N__law_moved, N__law_taken, N__law_is_instance, N__law_alike, N__law_meet_of, N_law])
local macro_rules | `(tactic| walk_at "w") => `(tactic| conv => arg 1; whnf)
local macro_rules | `(tactic| walk_at "r") => `(tactic| first | walk_at "k" | rw [d_int] | rw [d_str] | rw [d_bl] | rw [vc_eq] | rw [vc_in] | rw [cut1] | rw [v_addt (by decide)] | rw [gd_pos (by decide)] | rw [pd_true (by decide)] | rw [v_ix0T] | rw [d_self] | rw [v_mod (by decide)] | rw [v_divc (by decide)] | rw [v_mulr (by decide)] | rw [v_mull (by decide)])
local macro_rules | `(tactic| walk_at "g") => `(tactic| ((walk_at "w"); (repeat ((walk_at "r"); (walk_at "w"))); (walk_at "n")))

/-- a pool of draws -/
def pv (ns : List Int) (i v c s : Int) : Vl := .lst [.lst (ns.map .int), .int i, .int v, .int c, .int s]
def isPool (x : Vl) : Prop := ∃ ns i v c s, x = pv ns i v c s ∧ 0 ≤ i
theorem isPool.mut {x : Vl} (h : isPool x) : x.mut = true := by obtain ⟨_, _, _, _, _, rfl, _⟩ := h; rfl
theorem v_is_integer {n : Nat} (hn : 1 ≤ n) (x : Vl) : pcall PT n "_law_is_integer" [x] = some (.bl (match x with | .int _ => true | _ => false), [some x]) := by
  obtain ⟨n, rfl, hn⟩ := lvl hn
  rw [pcall_eq (F__law_is_integer) (K__law_is_integer) (R__law_is_integer) rfl]
  cases x <;> (walk_at "w") <;> rfl
theorem v_spread {n : Nat} (hn : 1 ≤ n) (i : Int) : ∃ j, pcall PT n "_law_spread" [.int i] = some (.int j, [some (.int i)]) := by
  obtain ⟨n, rfl, hn⟩ := lvl hn
  suffices h : Ev (pcall PT (n + 1) "_law_spread" [.int i]) fun r => ∃ j, r = (.int j, [some (.int i)]) by
    obtain ⟨r, e, j, rfl⟩ := h; exact ⟨j, e⟩
  rw [pcall_eq (F__law_spread) (K__law_spread) (R__law_spread) rfl]
  walk_at "g"
  rw [v_rng ⟨by decide, by decide⟩]
  have hL : ∀ x ∈ rgVl 0 4, ∃ k, x = .int k := fun x hx => by obtain ⟨k, _, rfl⟩ := List.mem_map.mp hx; exact ⟨_, rfl⟩
  generalize rgVl 0 4 = L at hL
  walk_at "w"
  refine ev_for (σ := Int × Int × Option Vl) (fun s => [some (.int i), some (.int s.1), some (.int s.2.1), s.2.2]) (fun _ => True) (_, _, none) rfl trivial ?_ ?_
  · rintro x ⟨a, b, y⟩ hx _ K hK
    obtain ⟨k, rfl⟩ := hL x hx
    walk_at "g"
    exact hK (_, _, _) trivial
  · rintro ⟨a, b, y⟩ _
    walk_at "g"
    exact ⟨_, rfl, _, rfl⟩
theorem v_pool {n : Nat} (hn : 1 ≤ n) (ns : List Int) : ∃ p, pcall PT n "_law_pool" [.scr ns] = some (p, [some (.scr ns)]) ∧ isPool p := by
  obtain ⟨n, rfl, hn⟩ := lvl hn
  suffices h : Ev (pcall PT (n + 1) "_law_pool" [.scr ns]) fun r => ∃ p, r = (p, [some (.scr ns)]) ∧ isPool p by
    obtain ⟨r, e, p, rfl, h⟩ := h; exact ⟨p, e, h⟩
  rw [pcall_eq (F__law_pool) (K__law_pool) (R__law_pool) rfl]
  walk_at "g"
  refine ev_for (σ := Int × Option Vl) (fun s => [some (.scr ns), some (.int s.1), s.2]) (fun _ => True) (_, none) rfl trivial ?_ ?_
  · rintro x ⟨s, y⟩ hx _ K hK
    obtain ⟨c, _, rfl⟩ := List.mem_map.mp hx
    walk_at "g"
    exact hK (_, _) trivial
  · rintro ⟨s, y⟩ _
    walk_at "g"
    exact ⟨_, rfl, _, rfl, ns, 0, 0, 0, _, rfl, Int.le_refl _⟩
theorem v_draw {n : Nat} (hn : 2 ≤ n) {p : Vl} (hp : isPool p) {m : Int} (hm : 0 < m ∧ m < 2 ^ 64) : ∃ p' j, pcall PT n "_law_draw" [p, .int m] = some (.int j, [some p', some (.int m)]) ∧ isPool p' ∧ 0 ≤ j ∧ j < m := by
  obtain ⟨n, rfl, hn⟩ := lvl hn
  suffices h : Ev (pcall PT (n + 1) "_law_draw" [p, .int m]) fun r => ∃ p' j, r = (.int j, [some p', some (.int m)]) ∧ isPool p' ∧ 0 ≤ j ∧ j < m by
    obtain ⟨r, e, p', j, rfl, h⟩ := h; exact ⟨p', j, e, h⟩
  rw [pcall_eq (F__law_draw) (K__law_draw) (R__law_draw) rfl]
  obtain ⟨ns, i, v, c, s, rfl, hi⟩ := hp
  have part : ∀ i v c s x, 0 ≤ i → Ev (pk (pcall PT n) PT false (fn__law_draw.body.drop 1) kd__law_draw [some (pv ns i v c s), some (.int m), x, none, none] { nx := fun env => some (.non, env.take 2), rt := fun v env => some (v, env.take 2) })
      fun r => ∃ p' j, r = (.int j, [some p', some (.int m)]) ∧ isPool p' ∧ 0 ≤ j ∧ j < m := by
    clear hi i v c s
    intro i v c s x hi
    walk_at "g"
    by_cases hv : v ≤ 0
    · rw [decide_eq_true hv]
      walk_at "g"
      rw [v_mod hm.1]
      walk_at "g"
      exact ⟨_, rfl, _, _, rfl, ⟨ns, i, v, c + 1, s, rfl, hi⟩, Int.emod_nonneg _ (by omega), Int.emod_lt_of_pos _ hm.1⟩
    · rw [decide_eq_false hv]
      walk_at "g"
      rw [v_mod hm.1]
      walk_at "g"
      rw [v_divc hm]
      walk_at "g"
      exact ⟨_, rfl, _, _, rfl, ⟨ns, i, v / m, c + 1, s, rfl, hi⟩, Int.emod_nonneg _ (by omega), Int.emod_lt_of_pos _ hm.1⟩
  walk_at "g"
  by_cases hv : v ≤ 0
  · rw [decide_eq_true hv]
    walk_at "g"
    by_cases hl : i < (ns.map Vl.int).length
    · rw [decide_eq_true hl]
      walk_at "g"
      have hn' : i.toNat < ns.length := by rw [List.length_map] at hl; omega
      rw [v_ixl (x := .int ns[i.toNat]) hi (by rw [List.getElem?_map, List.getElem?_eq_getElem hn']; rfl)]
      walk_at "g"
      by_cases hc : ns[i.toNat] < 1000000000000000000
      · rw [decide_eq_true hc]
        walk_at "g"
        obtain ⟨j, e⟩ := v_spread (n := n) (by omega) ns[i.toNat]
        rw [e]
        walk_at "g"
        exact part (i + 1) j c s _ (by omega)
      · rw [decide_eq_false hc]
        exact part (i + 1) _ c s _ (by omega)
    · rw [decide_eq_false hl]
      exact part i v c s _ hi
  · rw [decide_eq_false hv]
    exact part i v c s _ hi

theorem v_pick {n : Nat} (hn : 3 ≤ n) {p : Vl} (hp : isPool p) {us : List Vl} (h : 0 < us.length ∧ us.length < 2 ^ 64) {z : Vl} (hz : z = .lst us ∨ z = .tup us) : ∃ p' x, pcall PT n "_law_pick" [p, z] = some (x, [some p', some z]) ∧ isPool p' ∧ x ∈ us := by
  obtain ⟨n, rfl, hn⟩ := lvl hn
  suffices h : Ev (pcall PT (n + 1) "_law_pick" [p, z]) fun r => ∃ p' x, r = (x, [some p', some z]) ∧ isPool p' ∧ x ∈ us by
    obtain ⟨r, e, p', x, rfl, h⟩ := h; exact ⟨p', x, e, h⟩
  rw [pcall_eq (F__law_pick) (K__law_pick) (R__law_pick) rfl]
  obtain ⟨p', j, e, hp', j0, j1⟩ := v_draw (n := n) (by omega) hp (m := us.length) (by omega)
  have hj : j.toNat < us.length := by omega
  rcases hz with rfl | rfl
  · walk_at "g"
    rw [e]
    walk_at "g"
    rw [v_ixl j0 (List.getElem?_eq_getElem hj)]
    walk_at "g"
    exact ⟨_, rfl, _, _, rfl, hp', List.getElem_mem hj⟩
  · walk_at "g"
    rw [e]
    walk_at "g"
    rw [v_ixt j0 (List.getElem?_eq_getElem hj)]
    walk_at "g"
    exact ⟨_, rfl, _, _, rfl, hp', List.getElem_mem hj⟩
theorem v_spelled {k : Nat} (hk : 1 ≤ k) {n : Nat} (h1 : n ≤ 99246114928149462) : pcall PT k "_law_spelled" [.int n] = some (.str (spS n), [some (.int n)]) := by
  obtain ⟨k, rfl, hk⟩ := lvl hk
  refine Ev.eq ?_
  rw [pcall_eq (F__law_spelled) (K__law_spelled) (R__law_spelled) rfl]
  have hb := spell_len 12 n (by rw [spB12]; exact h1)
  walk_at "g"
  refine ev_whl (σ := Int × Str) (fun s => [some (.int n), some (.str s.2), some (.int s.1)]) (fun s => 0 ≤ s.1 ∧ spell s.1.toNat ++ s.2.cps.toList = spell n) (fun s => (spell s.1.toNat).length) (n, _) rfl ⟨by show (0 : Int) ≤ n; omega, by show spell (Int.toNat n) ++ _ = _; simp; rfl⟩ ?_ ?_
  · show (spell (Int.toNat n)).length < WF
    rw [WF_eq, Int.toNat_natCast]; omega
  rintro ⟨l, w⟩ ⟨h0, hw⟩ K hK
  simp only at h0 hw
  walk_at "g"
  by_cases hl : 0 < l
  · rw [decide_eq_true hl]
    walk_at "g"
    have lt := letter_at (Int.emod_nonneg (l - 1) (by decide : (26 : Int) ≠ 0)) (Int.emod_lt_of_pos (l - 1) (by decide))
    rw [v_ixs (by decide) lt]
    walk_at "g"
    have e : w.length = w.cps.toList.length := by simp [Str.length]
    have e1 : Str.length ⟨#[97 + ((l - 1) % 26).toNat]⟩ = 1 := rfl
    have h2 := congrArg List.length hw
    rw [List.length_append] at h2
    have h3 : sizeLine = 16777216 := by decide
    rw [v_adds (by rw [e1, e]; omega)]
    walk_at "g"
    have a1 : ((l - 1) / 26).toNat = (l.toNat - 1) / 26 := by omega
    have a2 : ((l - 1) % 26).toNat = (l.toNat - 1) % 26 := by omega
    have sp := spell_pos (n := l.toNat) (by omega)
    refine hK ((l - 1) / 26, _) ⟨by show 0 ≤ (l - 1) / 26; omega, ?_⟩ ?_
    · rw [← hw, sp]
      show spell ((l - 1) / 26).toNat ++ (Array.toList (#[_] ++ w.cps)) = _
      rw [a1, a2]
      simp
    · show (spell ((l - 1) / 26).toNat).length < (spell l.toNat).length
      rw [a1, sp, List.length_append, List.length_singleton]; omega
  · rw [decide_eq_false hl]
    walk_at "g"
    have : l = 0 := by omega
    subst this
    have e : w = spS n := by
      unfold spS
      have : w.cps.toList = spell n := by simpa [spell_0] using hw
      rw [← this]
    rw [e]
    exact ⟨_, rfl, rfl⟩

theorem v_words {k : Nat} (hk : 3 ≤ k) {p : Vl} (hp : isPool p) {m : Nat} (hm : m ≤ 1000) : ∃ (p' : Vl) (ns : List Nat), pcall PT k "_law_words" [p, .int m] = some (.lst (ns.map fun n => .str (spS n)), [some p', some (.int m)]) ∧ isPool p' ∧ ns.length = m ∧ ns.Nodup ∧ ∀ n ∈ ns, 0 < n ∧ n ≤ 99246114928149462 := by
  obtain ⟨k, rfl, hk⟩ := lvl hk
  suffices h : Ev (pcall PT (k + 1) "_law_words" [p, .int m]) fun r => ∃ (p' : Vl) (ns : List Nat), r = (.lst (ns.map fun n => .str (spS n)), [some p', some (.int m)]) ∧ isPool p' ∧ ns.length = m ∧ ns.Nodup ∧ ∀ n ∈ ns, 0 < n ∧ n ≤ 99246114928149462 by
    obtain ⟨r, e, p', x, rfl, h⟩ := h; exact ⟨p', x, e, h⟩
  rw [pcall_eq (F__law_words) (K__law_words) (R__law_words) rfl]
  have hz : sizeLine = 16777216 := by decide
  walk_at "g"
  rw [v_rng (small_len (by omega))]
  walk_at "g"
  refine ev_forp (σ := Vl × List Int × Option Vl × Option Vl) (fun s => [some s.1, some (.int m), some (.lst (s.2.1.map .int)), s.2.2.1, s.2.2.2]) (fun pre s => isPool s.1 ∧ s.2.1.length = pre.length ∧ s.2.1.Nodup ∧ ∀ n ∈ s.2.1, 0 < n ∧ n ≤ 95428956661682176 + (pre.length : Int)) (p, [], none, none) rfl ⟨hp, rfl, by simp, by simp⟩ ?_ ?_
  · rintro pre x post ⟨p, ns, a, b⟩ e ⟨hp, hl, hn, hb⟩ K hK
    obtain ⟨hi, rfl⟩ := rg_at e
    simp only at hp hl hn hb ⊢
    obtain ⟨p1, j, e1, hp1, j0, j1⟩ := v_draw (n := k) (by omega) hp (m := 5) (by decide)
    walk_at "g"
    rw [e1]
    walk_at "g"
    obtain ⟨v, hv, v0, v1⟩ : ∃ v : Int, vIx (.tup [.int 26, .int 702, .int 18278, .int 475254, .int 95428956661682176]) (.int j) = some (.int v) ∧ 0 < v ∧ v ≤ 95428956661682176 := by
      have : j = 0 ∨ j = 1 ∨ j = 2 ∨ j = 3 ∨ j = 4 := by omega
      rcases this with rfl | rfl | rfl | rfl | rfl <;> exact ⟨_, rfl, by decide, by decide⟩
    rw [hv]
    walk_at "g"
    obtain ⟨p2, t, e2, hp2, t0, t1⟩ := v_draw (n := k) (by omega) hp1 (m := v) (by omega)
    rw [e2]
    walk_at "g"
    refine ev_whl (σ := Int) (fun n => [some p2, some (.int m), some (.lst (ns.map .int)), some (.int pre.length), some (.int n)]) (fun n => 0 < n ∧ n + cnt ns n ≤ 95428956661682176 + (pre.length : Int)) (fun n => cnt ns n) (1 + t) rfl ⟨by omega, ?_⟩ ?_ ?_
    · have := cnt_le ns (1 + t); omega
    · have := cnt_le ns (1 + t); rw [WF_eq]; omega
    rintro n ⟨n0, n1⟩ K' hK'
    walk_at "g"
    rw [vIn_ints]
    by_cases hin : n ∈ ns
    · rw [decide_eq_true hin]
      walk_at "g"
      have := cnt_lt hin
      exact hK' (n + 1) ⟨by omega, by omega⟩ this
    · rw [decide_eq_false hin]
      walk_at "g"
      rw [v_app (by rw [List.length_map]; omega)]
      walk_at "g"
      have e0 : List.map Vl.int ns ++ [Vl.int n] = (ns ++ [n]).map Vl.int := by simp
      rw [e0]
      refine hK (p2, ns ++ [n], _, _) ⟨hp2, by simp [hl], ?_, ?_⟩
      · rw [List.nodup_append]
        exact ⟨hn, by simp, fun u hu w hw e => by simp at hw; rw [← hw, ← e] at hin; exact hin hu⟩
      · intro u hu
        rw [List.length_append, List.length_singleton]
        rcases List.mem_append.mp hu with hu | hu
        · have := hb u hu; omega
        · simp at hu; subst hu; omega
  · rintro ⟨p, ns, a, b⟩ ⟨hp, hl, hn, hb⟩
    simp only at hp hl hn hb
    rw [rg_len] at hl hb
    walk_at "g"
    refine ev_map (fun x => match x with | .int n => .str (spS n.toNat) | _ => .non) (by rw [List.length_map]; show ns.length ≤ _; omega) ?_ ?_
    · intro x hx K
      obtain ⟨u, hu, rfl⟩ := List.mem_map.mp hx
      have := hb u hu
      walk_at "g"
      have e := v_spelled (k := k) (by omega) (n := u.toNat) (by omega)
      rw [show ((u.toNat : Nat) : Int) = u by omega] at e
      rw [e]
      walk_at "g"
      rfl
    · walk_at "g"
      refine ⟨_, rfl, p, ns.map Int.toNat, ?_, hp, by rw [List.length_map]; exact hl, ?_, ?_⟩
      · show (Vl.lst (List.map _ (List.map Vl.int ns)), _) = _
        rw [List.map_map, List.map_map]; rfl
      · rw [List.nodup_iff_pairwise_ne, List.pairwise_map]
        rw [List.nodup_iff_pairwise_ne] at hn
        refine hn.imp_of_mem ?_
        intro u w hu hw ne e
        have := hb u hu; have := hb w hw
        exact ne (by omega)
      · intro n hn'
        obtain ⟨u, hu, rfl⟩ := List.mem_map.mp hn'
        have := hb u hu
        omega
/-- constructors, as drawn -/
theorem v_constructors {k : Nat} (hk : 4 ≤ k) {p : Vl} (hp : isPool p) : ∃ (p' : Vl) (c : List (Str × Int)), pcall PT k "_law_constructors" [p] = some (consV c, [some p']) ∧ isPool p' ∧ ConsOk c := by
  obtain ⟨k, rfl, hk⟩ := lvl hk
  suffices h : Ev (pcall PT (k + 1) "_law_constructors" [p]) fun r => ∃ (p' : Vl) (c : List (Str × Int)), r = (consV c, [some p']) ∧ isPool p' ∧ ConsOk c by
    obtain ⟨r, e, p', x, rfl, h⟩ := h; exact ⟨p', x, e, h⟩
  rw [pcall_eq F__law_constructors K__law_constructors R__law_constructors rfl]
  have hz : sizeLine = 16777216 := by decide
  walk_at "g"
  obtain ⟨p1, j, e1, hp1, j0, j1⟩ := v_draw (n := k) (by omega) hp (m := 10) (by decide)
  rw [e1]
  walk_at "g"
  obtain ⟨ar, har, a2, a5, ha, a0⟩ : ∃ ar : List Int, vIx (.tup [.tup [.int 0, .int 1], .tup [.int 0, .int 1, .int 2], .tup [.int 0, .int 0, .int 1], .tup [.int 0, .int 2], .tup [.int 1, .int 0, .int 0, .int 2], .tup [.int 0, .int 2, .int 0],
      .tup [.int 1, .int 1, .int 0], .tup [.int 2, .int 0, .int 0], .tup [.int 0, .int 1, .int 0, .int 1, .int 2], .tup [.int 0, .int 0]]) (.int j) = some (.tup (ar.map .int)) ∧ 2 ≤ ar.length ∧ ar.length ≤ 5 ∧ (∀ i ∈ ar, 0 ≤ i ∧ i ≤ 2) ∧ (0 : Int) ∈ ar := by
    have : j = 0 ∨ j = 1 ∨ j = 2 ∨ j = 3 ∨ j = 4 ∨ j = 5 ∨ j = 6 ∨ j = 7 ∨ j = 8 ∨ j = 9 := by omega
    rcases this with rfl | rfl | rfl | rfl | rfl | rfl | rfl | rfl | rfl | rfl
    · exact ⟨[0, 1], rfl, by decide, by decide, by decide, by decide⟩
    · exact ⟨[0, 1, 2], rfl, by decide, by decide, by decide, by decide⟩
    · exact ⟨[0, 0, 1], rfl, by decide, by decide, by decide, by decide⟩
    · exact ⟨[0, 2], rfl, by decide, by decide, by decide, by decide⟩
    · exact ⟨[1, 0, 0, 2], rfl, by decide, by decide, by decide, by decide⟩
    · exact ⟨[0, 2, 0], rfl, by decide, by decide, by decide, by decide⟩
    · exact ⟨[1, 1, 0], rfl, by decide, by decide, by decide, by decide⟩
    · exact ⟨[2, 0, 0], rfl, by decide, by decide, by decide, by decide⟩
    · exact ⟨[0, 1, 0, 1, 2], rfl, by decide, by decide, by decide, by decide⟩
    · exact ⟨[0, 0], rfl, by decide, by decide, by decide, by decide⟩
  rw [har]
  have al : ((ar.map Vl.int).length : Int) = (ar.length : Int) := by rw [List.length_map]
  walk_at "g"
  rw [al]
  obtain ⟨p2, ns, e2, hp2, hl, hn, hb⟩ := v_words (k := k) (by omega) hp1 (m := ar.length) (by omega)
  rw [e2]
  walk_at "g"
  rw [al, v_rng (small_len (by omega))]
  walk_at "g"
  refine ev_map (fun x => match x with | .int i => .tup [.str (spS (ns.getD i.toNat default)), .int (ar.getD i.toNat default)] | _ => .non) (by rw [rg_len]; omega) ?_ ?_
  · intro x hx K
    obtain ⟨i, hi, rfl⟩ := rg_mem hx
    have h1 : i < ns.length := by omega
    walk_at "g"
    rw [v_ixl (x := .str (spS ns[i])) (by omega) (by rw [List.getElem?_map, Int.toNat_natCast, List.getElem?_eq_getElem h1]; rfl)]
    walk_at "g"
    rw [v_ixt (x := .int ar[i]) (by omega) (by rw [List.getElem?_map, Int.toNat_natCast, List.getElem?_eq_getElem hi]; rfl)]
    walk_at "g"
    show _ = K (some (Vl.tup [.str (spS (ns.getD (Int.toNat i) default)), .int (ar.getD (Int.toNat i) default)])) _
    rw [Int.toNat_natCast, List.getD_eq_getElem?_getD, List.getD_eq_getElem?_getD, List.getElem?_eq_getElem h1, List.getElem?_eq_getElem hi]
    rfl
  · walk_at "g"
    refine ⟨_, rfl, p2, (ns.map spS).zip ar, ?_, hp2, ?_⟩
    · refine congrArg (·, _) ?_
      show Vl.tup _ = Vl.tup _
      congr 1
      have e := range_zip (fun n i => Vl.tup [.str (spS n), .int i]) ns ar hl
      rw [List.zip_map_left, List.map_map]
      refine Eq.trans ?_ e
      unfold rgVl
      rw [List.map_map, show ((ar.length : Int) - 0).toNat = ar.length by omega]
      refine List.map_congr_left fun q _ => ?_
      show Vl.tup [.str (spS (ns.getD (0 + (q : Int)).toNat default)), .int (ar.getD (0 + (q : Int)).toNat default)] = _
      rw [show (0 + (q : Int)).toNat = q by omega]
    · have hzl : ((ns.map spS).zip ar).length = ar.length := by rw [List.length_zip, List.length_map]; omega
      have z1 : ((ns.map spS).zip ar).map Prod.fst = ns.map spS := List.map_fst_zip (by rw [List.length_map]; omega)
      have z2 : ((ns.map spS).zip ar).map Prod.snd = ar := List.map_snd_zip (by rw [List.length_map]; omega)
      refine ⟨by omega, by omega, ?_, fun z hm => ?_, fun z hm => ha _ (by rw [← z2]; exact List.mem_map_of_mem hm), ?_⟩
      · rw [z1, List.nodup_iff_pairwise_ne, List.pairwise_map]
        rw [List.nodup_iff_pairwise_ne] at hn
        exact hn.imp fun ne e => ne (spS_inj e)
      · have : z.1 ∈ ns.map spS := by rw [← z1]; exact List.mem_map_of_mem hm
        obtain ⟨n, hn', e⟩ := List.mem_map.mp this
        rw [← e]
        exact spS_word (hb n hn').1 (hb n hn').2
      · rw [← z2] at a0
        obtain ⟨z, hz, e⟩ := List.mem_map.mp a0
        exact ⟨z, hz, e⟩

theorem v_law_term {V : List Int} {c : List (Str × Int)} (hc : ConsOk c) (hV : ∀ i ∈ V, 0 ≤ i) (hVl : V.length ≤ 1000) : ∀ (n : Nat) {k : Nat} {p : Vl}, n + 3 ≤ k → 1 ≤ n → isPool p →
    ∃ (p' : Vl) (t : Tm), pcall PT k "_law_term" [p, consV c, .lst (V.map .int), .int n] = some (t.v, [some p', some (consV c), some (.lst (V.map .int)), some (.int n)]) ∧ isPool p' ∧ t.ok c = true ∧ t.ht ≤ n ∧ ∀ i ∈ t.occ, i ∈ V := by
  intro n
  induction n with
  | zero => intro k p _ h; omega
  | succ n ih =>
  intro k p hk hn hp
  have hsz : sizeLine = 16777216 := by decide
  have hcl := hc.len
  obtain ⟨k, rfl, hk⟩ := lvl (k := n + 3) hk
  suffices h : Ev (pcall PT (k + 1) "_law_term" [p, consV c, .lst (V.map .int), .int (n + 1 : Nat)]) fun r => ∃ (p' : Vl) (t : Tm), r = (t.v, [some p', some (consV c), some (.lst (V.map .int)), some (.int (n + 1 : Nat))]) ∧ isPool p' ∧ t.ok c = true ∧ t.ht ≤ n + 1 ∧ ∀ i ∈ t.occ, i ∈ V by
    obtain ⟨r, e, p', t, rfl, h⟩ := h; exact ⟨p', t, e, h⟩
  rw [pcall_eq F__law_term K__law_term R__law_term rfl]
  have part : ∀ p, isPool p → Ev (pk (pcall PT k) PT false (fn__law_term.body.drop 1) kd__law_term [some p, some (consV c), some (.lst (V.map .int)), some (.int (n + 1 : Nat)), none, none] { nx := fun env => some (.non, env.take 4), rt := fun v env => some (v, env.take 4) })
      fun r => ∃ (p' : Vl) (t : Tm), r = (t.v, [some p', some (consV c), some (.lst (V.map .int)), some (.int (n + 1 : Nat))]) ∧ isPool p' ∧ t.ok c = true ∧ t.ht ≤ n + 1 ∧ ∀ i ∈ t.occ, i ∈ V := by
    clear hp p
    intro p hp
    walk_at "g"
    refine ev_fm (fun x => match x with | .tup [_, .int a] => if a = 0 ∨ 1 ≤ n then some x else none | _ => none) (by rw [List.length_map]; omega) ?_ ?_
    · intro x hx K
      obtain ⟨z, hz, rfl⟩ := List.mem_map.mp hx
      walk_at "g"
      by_cases h0 : z.2 = 0
      · rw [decide_eq_true h0]
        walk_at "g"
        show _ = K (if z.2 = 0 ∨ 1 ≤ n then some (.tup [.str z.1, .int z.2]) else none) _
        rw [if_pos (.inl h0)]; rfl
      · rw [decide_eq_false h0]
        walk_at "g"
        show _ = K (if z.2 = 0 ∨ 1 ≤ n then some (.tup [.str z.1, .int z.2]) else none) _
        by_cases h1 : 1 ≤ n
        · rw [if_pos (.inr h1), decide_eq_true (by omega)]
          walk_at "g"; rfl
        · rw [if_neg (by omega), decide_eq_false (by omega)]
          walk_at "g"; rfl
    · generalize hus : List.filterMap _ (c.map _) = us
      have hmem : ∀ d ∈ us, ∃ z ∈ c, d = Vl.tup [.str z.1, .int z.2] ∧ (z.2 = 0 ∨ 1 ≤ n) := by
        intro d hd
        rw [← hus] at hd
        obtain ⟨y, hy, he⟩ := List.mem_filterMap.mp hd
        obtain ⟨z, hz, rfl⟩ := List.mem_map.mp hy
        have he : (if z.2 = 0 ∨ 1 ≤ n then some (Vl.tup [.str z.1, .int z.2]) else none) = some d := he
        by_cases hh : z.2 = 0 ∨ 1 ≤ n
        · rw [if_pos hh] at he; cases he; exact ⟨z, hz, rfl, hh⟩
        · rw [if_neg hh] at he; cases he
      have hpos : 0 < us.length := by
        obtain ⟨z, hz, hz0⟩ := hc.zero
        refine List.length_pos_of_mem (a := Vl.tup [.str z.1, .int z.2]) ?_
        rw [← hus]
        refine List.mem_filterMap.mpr ⟨_, List.mem_map_of_mem hz, ?_⟩
        show (if z.2 = 0 ∨ 1 ≤ n then some (Vl.tup [.str z.1, .int z.2]) else none) = _
        rw [if_pos (.inl hz0)]
      have hlen : us.length ≤ 5 := by
        rw [← hus]
        refine Nat.le_trans (List.length_filterMap_le ..) ?_
        rw [List.length_map]; exact hcl
      obtain ⟨p1, d, e1, hp1, hd⟩ := v_pick (n := k) (by omega) hp (us := us) ⟨hpos, by omega⟩ (.inl rfl)
      obtain ⟨z, hz, rfl, hzn⟩ := hmem d hd
      have hza := hc.ar z hz
      obtain ⟨zw, za⟩ := z
      obtain ⟨za, rfl⟩ : ∃ m : Nat, za = m := ⟨za.toNat, by simp only at hza; omega⟩
      simp only at hza hzn
      walk_at "g"
      rw [e1]
      walk_at "g"
      rw [v_rng (show small (za : Int) by unfold small; omega)]
      walk_at "g"
      refine ev_lc (σ := Vl) (fun p => [some p, some (consV c), some (.lst (V.map .int)), some (.int (n + 1 : Nat)), some (.tup [.str zw, .int za]), none]) (fun pre acc p => isPool p ∧ ∃ ts : List Tm, acc = ts.map Tm.v ∧ ts.length = pre.length ∧ Tm.oks c ts = true ∧ Tm.hts ts ≤ n ∧ ∀ i ∈ Tm.occs ts, i ∈ V) p1 rfl ⟨hp1, [], rfl, rfl, rfl, by simp [Tm.hts], by simp [Tm.occs]⟩ (by rw [rg_len]; omega) ?_ ?_
      · rintro pre x post acc p e ⟨hp, ts, rfl, hl4, ho, hh, hoc⟩ K hN hK
        obtain ⟨hi, rfl⟩ := rg_at e
        have hn1 : 1 ≤ n := by
          rcases hzn with h | h
          · omega
          · exact h
        walk_at "g"
        rw [show ((n + 1 : Nat) : Int) - 1 = (n : Nat) by omega]
        obtain ⟨p', t, e5, hp', o5, h5, v5⟩ := ih (k := k) (by omega) hn1 hp
        rw [e5]
        walk_at "g"
        refine hK t.v p' ⟨hp', ts ++ [t], by simp, by simp [hl4], ?_, ?_, ?_⟩
        · rw [Tm.oks_all, List.all_append, ← Tm.oks_all, ho]; simp [o5]
        · rw [Tm.hts_le] at hh ⊢
          intro t' ht'
          rcases List.mem_append.mp ht' with h | h
          · exact hh _ h
          · simp at h; subst h; exact h5
        · rw [Tm.occs_append]
          intro i hi
          rcases List.mem_append.mp hi with h | h
          · exact hoc i h
          · exact v5 i (by simpa [Tm.occs] using h)
      · rintro acc p ⟨hp, ts, rfl, hl4, ho, hh, hoc⟩ hal
        rw [rg_len] at hl4
        walk_at "g"
        rw [v_addt (by rw [List.length_map]; show 1 + _ ≤ _; omega)]
        walk_at "g"
        refine ⟨_, rfl, p, .app zw ts, ?_, hp, ?_, ?_, hoc⟩
        · rw [Tm.v, Tm.vs_map]; rfl
        · simp only [Tm.ok, ho, Bool.and_true, decide_eq_true_eq]
          rw [lookup_mem hc.nd hz, hl4]
        · simp only [Tm.ht]; omega
  walk_at "g"
  have hVm : ((V.map Vl.int).length : Int) = V.length := by rw [List.length_map]
  by_cases hV0 : V = []
  · rw [decide_eq_false (by rw [hVm, hV0]; simp)]
    exact part _ hp
  have hVp : 0 < V.length := List.length_pos_iff.mpr hV0
  rw [decide_eq_true (by rw [hVm]; omega)]
  walk_at "g"
  obtain ⟨p1, i, e1, hp1, i0, i1⟩ := v_draw (n := k) (by omega) hp (m := 2) (by decide)
  rw [e1]
  walk_at "g"
  by_cases hi : i = 0
  · rw [decide_eq_true hi]
    walk_at "g"
    obtain ⟨p2, d, e2, hp2, hd⟩ := v_pick (n := k) (by omega) hp1 (us := V.map .int) (by rw [List.length_map]; omega) (.inl rfl)
    obtain ⟨j, hj, rfl⟩ := List.mem_map.mp hd
    rw [e2]
    walk_at "g"
    exact ⟨_, rfl, p2, .var j, rfl, hp2, by simp only [Tm.ok]; exact decide_eq_true (hV j hj), by simp only [Tm.ht]; omega, by simpa [Tm.occ] using hj⟩
  · rw [decide_eq_false hi]
    exact part _ hp1

theorem v_distinct {k : Nat} (hk : 1 ≤ k) {ns : List Int} (hl : ns.length < sizeLine) : pcall PT k "distinct" [.lst (ns.map .int)] = some (.lst ((dedup ns).map .int), [some (.lst (ns.map .int))]) := by
  obtain ⟨k, rfl, hk⟩ := lvl hk
  refine Ev.eq ?_
  rw [pcall_eq F_distinct K_distinct R_distinct rfl]
  walk_at "g"
  refine ev_forp (σ := List Int × Option Vl) (fun s => [some (.lst (ns.map .int)), some (.lst (s.1.map .int)), s.2]) (fun pre s => ∃ us vs, ns = us ++ vs ∧ pre = us.map .int ∧ s.1 = dedup us) ([], none) rfl ⟨[], ns, rfl, rfl, rfl⟩ ?_ ?_
  · rintro pre x post ⟨f, y⟩ e ⟨us, vs, rfl, rfl, rfl⟩ K hK
    rw [List.map_append, List.append_cancel_left_eq] at e
    obtain ⟨n, vs, rfl, rfl, _⟩ := List.map_eq_cons_iff.mp e
    have dl := dedup_len us
    rw [List.length_append] at hl
    have e0 : dedup (us ++ [n]) = if n ∈ dedup us then dedup us else dedup us ++ [n] := by unfold dedup; rw [List.foldl_append]; rfl
    dsimp only
    walk_at "g"
    rw [vc_nin vIn_ints]
    by_cases h : n ∈ dedup us
    · rw [decide_eq_true h]
      walk_at "g"
      rw [if_pos h] at e0
      exact hK (dedup us, _) ⟨us ++ [n], vs, by simp, by simp, e0.symm⟩
    · rw [decide_eq_false h]
      walk_at "g"
      rw [v_app (by rw [List.length_map]; omega)]
      walk_at "g"
      rw [if_neg h] at e0
      have e1 : List.map Vl.int (dedup us) ++ [Vl.int n] = (dedup us ++ [n]).map Vl.int := by simp
      rw [e1]
      exact hK (dedup us ++ [n], _) ⟨us ++ [n], vs, by simp, by simp, e0.symm⟩
  · rintro ⟨f, y⟩ ⟨us, vs, e, e2, rfl⟩
    have : us = ns := by
      have h := congrArg List.length e2
      rw [List.length_map, List.length_map] at h
      have h2 := congrArg List.length e
      rw [List.length_append] at h2
      have : vs = [] := List.length_eq_zero_iff.mp (by omega)
      rw [e, this, List.append_nil]
    subst this
    walk_at "g"
    exact ⟨_, rfl, rfl⟩
theorem v_unlike {k : Nat} (hk : 1 ≤ k) {ns : List Int} (hl : ns.length < sizeLine) : pcall PT k "_law_unlike" [.lst (ns.map .int)] = some (.lst ((dedup ns).map .int), [some (.lst (ns.map .int))]) := by
  obtain ⟨k, rfl, hk⟩ := lvl hk
  refine Ev.eq ?_
  rw [pcall_eq F__law_unlike K__law_unlike R__law_unlike rfl]
  walk_at "g"
  refine ev_forp (σ := List Int × Option Vl) (fun s => [some (.lst (ns.map .int)), some (.lst (s.1.map .int)), s.2]) (fun pre s => ∃ us vs, ns = us ++ vs ∧ pre = us.map .int ∧ s.1 = dedup us) ([], none) rfl ⟨[], ns, rfl, rfl, rfl⟩ ?_ ?_
  · rintro pre x post ⟨f, y⟩ e ⟨us, vs, rfl, rfl, rfl⟩ K hK
    rw [List.map_append, List.append_cancel_left_eq] at e
    obtain ⟨n, vs, rfl, rfl, _⟩ := List.map_eq_cons_iff.mp e
    have dl := dedup_len us
    rw [List.length_append] at hl
    have e0 : dedup (us ++ [n]) = if n ∈ dedup us then dedup us else dedup us ++ [n] := by unfold dedup; rw [List.foldl_append]; rfl
    dsimp only
    walk_at "g"
    rw [vc_nin vIn_ints]
    by_cases h : n ∈ dedup us
    · rw [decide_eq_true h]
      walk_at "g"
      rw [if_pos h] at e0
      exact hK (dedup us, _) ⟨us ++ [n], vs, by simp, by simp, e0.symm⟩
    · rw [decide_eq_false h]
      walk_at "g"
      rw [v_app (by rw [List.length_map]; omega)]
      walk_at "g"
      rw [if_neg h] at e0
      have e1 : List.map Vl.int (dedup us) ++ [Vl.int n] = (dedup us ++ [n]).map Vl.int := by simp
      rw [e1]
      exact hK (dedup us ++ [n], _) ⟨us ++ [n], vs, by simp, by simp, e0.symm⟩
  · rintro ⟨f, y⟩ ⟨us, vs, e, e2, rfl⟩
    have : us = ns := by
      have h := congrArg List.length e2
      rw [List.length_map, List.length_map] at h
      have h2 := congrArg List.length e
      rw [List.length_append] at h2
      have : vs = [] := List.length_eq_zero_iff.mp (by omega)
      rw [e, this, List.append_nil]
    subst this
    walk_at "g"
    exact ⟨_, rfl, rfl⟩
theorem v_occurrences : ∀ (n : Nat) {k : Nat} {t : Tm}, n ≤ k → t.ht ≤ n → t.size ≤ sizeLine → pcall PT k "occurrences" [t.v] = some (.lst (t.occ.map .int), [some t.v]) := by
  intro n
  induction n with
  | zero => intro k t _ h; cases t <;> simp [Tm.ht] at h
  | succ n ih =>
  intro k t hk ht hs
  obtain ⟨k, rfl, hk⟩ := lvl hk
  refine Ev.eq ?_
  rw [pcall_eq F_occurrences K_occurrences R_occurrences rfl]
  cases t with
  | var i =>
    walk_at "g"
    exact ⟨_, rfl, rfl⟩
  | app w ts =>
    simp only [Tm.ht] at ht
    simp only [Tm.size] at hs
    walk_at "g"
    refine ev_forp (σ := List Int × Option Vl) (fun s => [some (Tm.app w ts).v, some (.lst (s.1.map .int)), s.2]) (fun pre s => ∃ us vs, ts = us ++ vs ∧ pre = Tm.vs us ∧ s.1 = Tm.occs us) ([], none) rfl ⟨[], ts, rfl, rfl, rfl⟩ ?_ ?_
    · rintro pre x post ⟨f, y⟩ e ⟨us, vs, e0, rfl, rfl⟩ K hK
      obtain ⟨us', t, r, e1, e2, rfl⟩ := vs_split e
      have eu : us' = us := by
        have h2 := congrArg List.length e2
        rw [vs_len, vs_len] at h2
        exact (List.append_inj (e1.symm.trans e0) h2.symm).1
      subst eu
      have tm : t ∈ ts := by rw [e1]; simp
      have := Tm.hts_le.mp (show Tm.hts ts ≤ n by omega) t tm
      have ol := Tm.occs_len (us' ++ [t])
      have sl : Tm.sizes (us' ++ [t]) ≤ Tm.sizes ts := by rw [e1, Tm.sizes_append, Tm.sizes_append, Tm.sizes, Tm.sizes, Tm.sizes]; omega
      have e3 : Tm.occs (us' ++ [t]) = Tm.occs us' ++ t.occ := by rw [Tm.occs_append]; simp [Tm.occs]
      rw [e3, List.length_append] at ol
      dsimp only
      walk_at "g"
      rw [ih (by omega) this (by have := Tm.size_mem tm; omega)]
      walk_at "g"
      rw [v_ext (by rw [List.length_map, List.length_map]; omega)]
      walk_at "g"
      have e4 : List.map Vl.int (Tm.occs us') ++ List.map Vl.int t.occ = (Tm.occs (us' ++ [t])).map Vl.int := by rw [e3, List.map_append]
      rw [e4]
      exact hK (Tm.occs (us' ++ [t]), _) ⟨us' ++ [t], r, by rw [e1]; simp, by rw [Tm.vs_map, Tm.vs_map]; simp, rfl⟩
    · rintro ⟨f, y⟩ ⟨us, vs, e, e2, rfl⟩
      have : us = ts := by
        have h := congrArg List.length e2
        rw [vs_len, vs_len] at h
        have h2 := congrArg List.length e
        rw [List.length_append] at h2
        have : vs = [] := List.length_eq_zero_iff.mp (by omega)
        rw [e, this, List.append_nil]
      subst this
      walk_at "g"
      exact ⟨_, rfl, rfl⟩
theorem v_law_occurrences : ∀ (n : Nat) {k : Nat} {t : Tm}, n + 1 ≤ k → t.ht ≤ n → t.size ≤ sizeLine → pcall PT k "_law_occurrences" [t.v] = some (.lst (t.occ.map .int), [some t.v]) := by
  intro n
  induction n with
  | zero => intro k t _ h; cases t <;> simp [Tm.ht] at h
  | succ n ih =>
  intro k t hk ht hs
  obtain ⟨k, rfl, hk⟩ := lvl hk
  refine Ev.eq ?_
  rw [pcall_eq F__law_occurrences K__law_occurrences R__law_occurrences rfl]
  cases t with
  | var i =>
    walk_at "g"
    rw [v_is_integer (by omega)]
    walk_at "g"
    exact ⟨_, rfl, rfl⟩
  | app w ts =>
    simp only [Tm.ht] at ht
    simp only [Tm.size] at hs
    walk_at "g"
    rw [v_is_integer (by omega)]
    walk_at "g"
    refine ev_forp (σ := List Int × Option Vl) (fun s => [some (Tm.app w ts).v, some (.lst (s.1.map .int)), s.2]) (fun pre s => ∃ us vs, ts = us ++ vs ∧ pre = Tm.vs us ∧ s.1 = Tm.occs us) ([], none) rfl ⟨[], ts, rfl, rfl, rfl⟩ ?_ ?_
    · rintro pre x post ⟨f, y⟩ e ⟨us, vs, e0, rfl, rfl⟩ K hK
      obtain ⟨us', t, r, e1, e2, rfl⟩ := vs_split e
      have eu : us' = us := by
        have h2 := congrArg List.length e2
        rw [vs_len, vs_len] at h2
        exact (List.append_inj (e1.symm.trans e0) h2.symm).1
      subst eu
      have tm : t ∈ ts := by rw [e1]; simp
      have := Tm.hts_le.mp (show Tm.hts ts ≤ n by omega) t tm
      have ol := Tm.occs_len (us' ++ [t])
      have sl : Tm.sizes (us' ++ [t]) ≤ Tm.sizes ts := by rw [e1, Tm.sizes_append, Tm.sizes_append, Tm.sizes, Tm.sizes, Tm.sizes]; omega
      have e3 : Tm.occs (us' ++ [t]) = Tm.occs us' ++ t.occ := by rw [Tm.occs_append]; simp [Tm.occs]
      rw [e3, List.length_append] at ol
      dsimp only
      walk_at "g"
      rw [ih (by omega) this (by have := Tm.size_mem tm; omega)]
      walk_at "g"
      rw [v_addl (by rw [List.length_map, List.length_map]; omega)]
      walk_at "g"
      have e4 : List.map Vl.int (Tm.occs us') ++ List.map Vl.int t.occ = (Tm.occs (us' ++ [t])).map Vl.int := by rw [e3, List.map_append]
      rw [e4]
      exact hK (Tm.occs (us' ++ [t]), _) ⟨us' ++ [t], r, by rw [e1]; simp, by rw [Tm.vs_map, Tm.vs_map]; simp, rfl⟩
    · rintro ⟨f, y⟩ ⟨us, vs, e, e2, rfl⟩
      have : us = ts := by
        have h := congrArg List.length e2
        rw [vs_len, vs_len] at h
        have h2 := congrArg List.length e
        rw [List.length_append] at h2
        have : vs = [] := List.length_eq_zero_iff.mp (by omega)
        rw [e, this, List.append_nil]
      subst this
      walk_at "g"
      exact ⟨_, rfl, rfl⟩

theorem v_same : ∀ (n : Nat) {k : Nat} {a : Vl}, n + 1 ≤ k → plain a = true → vdep a ≤ n → pcall PT k "_law_same" [a, a] = some (.bl true, [some a, some a]) := by
  intro n
  induction n with
  | zero =>
    intro k a hk hp hd
    obtain ⟨k, rfl, hk⟩ := lvl hk
    refine Ev.eq ?_
    rw [pcall_eq F__law_same K__law_same R__law_same rfl]
    cases a with
    | tup xs => rw [vdep] at hd; omega
    | lst xs => rw [vdep] at hd; omega
    | scr ns => cases hp
    | dic kvs => cases hp
    | non => walk_at "g"; exact ⟨_, rfl, rfl⟩
    | bl b => walk_at "g"; exact ⟨_, rfl, rfl⟩
    | int i => walk_at "g"; exact ⟨_, rfl, rfl⟩
    | str z => walk_at "g"; exact ⟨_, rfl, rfl⟩
  | succ n ih =>
    intro k a hk hp hd
    obtain ⟨k, rfl, hk⟩ := lvl (k := n + 1) hk
    have hz : sizeLine = 16777216 := by decide
    by_cases h0 : vdep a ≤ n
    · exact ih (by omega) hp h0
    refine Ev.eq ?_
    rw [pcall_eq F__law_same K__law_same R__law_same rfl]
    cases a with
    | tup xs =>
      simp only [plain, Bool.and_eq_true, decide_eq_true_eq, plains_all, List.all_eq_true] at hp
      rw [vdep] at hd
      walk_at "g"
      rw [v_rng (small_len (by omega))]
      walk_at "g"
      refine ev_fm (fun _ => none) (by rw [rg_len]; omega) ?_ ?_
      · intro x hx K
        obtain ⟨i, hi, rfl⟩ := rg_mem hx
        have hm := List.getElem_mem hi
        walk_at "g"
        rw [v_ixt (x := xs[i]) (by omega) (by rw [Int.toNat_natCast, List.getElem?_eq_getElem hi])]
        walk_at "g"
        rw [v_ixt (x := xs[i]) (by omega) (by rw [Int.toNat_natCast, List.getElem?_eq_getElem hi])]
        walk_at "g"
        rw [ih (by omega) (hp.1 _ hm) (by have := vdeps_mem hm; omega)]
        walk_at "g"
        rfl
      · rw [show List.filterMap (fun _ => (none : Option Vl)) (rgVl 0 (xs.length : Int)) = [] from List.filterMap_eq_nil_iff.mpr fun _ _ => rfl]
        walk_at "g"
        exact ⟨_, rfl, rfl⟩
    | lst xs =>
      simp only [plain, Bool.and_eq_true, decide_eq_true_eq, plains_all, List.all_eq_true] at hp
      rw [vdep] at hd
      walk_at "g"
      rw [v_rng (small_len (by omega))]
      walk_at "g"
      refine ev_fm (fun _ => none) (by rw [rg_len]; omega) ?_ ?_
      · intro x hx K
        obtain ⟨i, hi, rfl⟩ := rg_mem hx
        have hm := List.getElem_mem hi
        walk_at "g"
        rw [v_ixl (x := xs[i]) (by omega) (by rw [Int.toNat_natCast, List.getElem?_eq_getElem hi])]
        walk_at "g"
        rw [v_ixl (x := xs[i]) (by omega) (by rw [Int.toNat_natCast, List.getElem?_eq_getElem hi])]
        walk_at "g"
        rw [ih (by omega) (hp.1 _ hm) (by have := vdeps_mem hm; omega)]
        walk_at "g"
        rfl
      · rw [show List.filterMap (fun _ => (none : Option Vl)) (rgVl 0 (xs.length : Int)) = [] from List.filterMap_eq_nil_iff.mpr fun _ _ => rfl]
        walk_at "g"
        exact ⟨_, rfl, rfl⟩
    | scr ns => cases hp
    | dic kvs => cases hp
    | non => exact absurd (Nat.zero_le n) h0
    | bl b => exact absurd (Nat.zero_le n) h0
    | int i => exact absurd (Nat.zero_le n) h0
    | str z => exact absurd (Nat.zero_le n) h0

theorem v_substituted {l : List (Int × Tm)} : ∀ (n : Nat) {k : Nat} {t : Tm}, n ≤ k → t.ht ≤ n → t.size < sizeLine → pcall PT k "substituted" [t.v, .dic (dK Tm.v l)] = some ((t.sub (sb l)).v, [some t.v, some (.dic (dK Tm.v l))]) := by
  intro n
  induction n with
  | zero => intro k t _ h; cases t <;> simp [Tm.ht] at h
  | succ n ih =>
  intro k t hk ht hs
  obtain ⟨k, rfl, hk⟩ := lvl hk
  refine Ev.eq ?_
  rw [pcall_eq F_substituted K_substituted R_substituted rfl]
  cases t with
  | var i =>
    walk_at "g"
    refine ⟨_, rfl, ?_⟩
    show (((getV (dK Tm.v l) (.inl i)).getD (.int i)), _) = _
    rw [getV_dK, Tm.sub, sb]
    cases l.lookup i <;> rfl
  | app w ts =>
    simp only [Tm.ht] at ht
    simp only [Tm.size] at hs
    walk_at "g"
    have hl := Tm.sizes_len ts
    refine ev_mapOf (xs := ts) Tm.v (fun t => (t.sub (sb l)).v) (Tm.vs_map ts) (by omega) ?_ ?_
    · intro t tm K
      have := Tm.hts_le.mp (show Tm.hts ts ≤ n by omega) t tm
      walk_at "g"
      rw [ih (by omega) this (by have := Tm.size_mem tm; omega)]
      walk_at "g"
      rfl
    · walk_at "g"
      rw [v_addt (by rw [List.length_map]; show 1 + _ ≤ _; omega)]
      walk_at "g"
      refine ⟨_, rfl, ?_⟩
      rw [Tm.sub, Tm.v, Tm.vs_map, Tm.subs_map, List.map_map]; rfl
theorem v_replace {l : List (Int × Tm)} : ∀ (n : Nat) {k : Nat} {t : Tm}, n + 1 ≤ k → t.ht ≤ n → t.size < sizeLine → pcall PT k "_law_replace" [t.v, .dic (dK Tm.v l)] = some ((t.sub (sb l)).v, [some t.v, some (.dic (dK Tm.v l))]) := by
  intro n
  induction n with
  | zero => intro k t _ h; cases t <;> simp [Tm.ht] at h
  | succ n ih =>
  intro k t hk ht hs
  obtain ⟨k, rfl, hk⟩ := lvl (k := n + 1) hk
  refine Ev.eq ?_
  rw [pcall_eq F__law_replace K__law_replace R__law_replace rfl]
  cases t with
  | var i =>
    walk_at "g"
    rw [v_is_integer (by omega)]
    walk_at "g"
    rw [getV_dK]
    cases e : l.lookup i with
    | none =>
      walk_at "g"
      refine ⟨_, rfl, ?_⟩
      rw [Tm.sub, sb, e]; rfl
    | some t =>
      walk_at "g"
      rw [show vIx (.dic (dK Tm.v l)) (Tm.var i).v = (l.lookup i).map Tm.v from v_ixd, e]
      walk_at "g"
      refine ⟨_, rfl, ?_⟩
      rw [Tm.sub, sb, e]; rfl
  | app w ts =>
    simp only [Tm.ht] at ht
    simp only [Tm.size] at hs
    walk_at "g"
    rw [v_is_integer (by omega)]
    walk_at "g"
    have hl := Tm.sizes_len ts
    refine ev_mapOf (xs := ts) Tm.v (fun t => (t.sub (sb l)).v) (Tm.vs_map ts) (by omega) ?_ ?_
    · intro t tm K
      have := Tm.hts_le.mp (show Tm.hts ts ≤ n by omega) t tm
      walk_at "g"
      rw [ih (by omega) this (by have := Tm.size_mem tm; omega)]
      walk_at "g"
      rfl
    · walk_at "g"
      rw [v_addt (by rw [List.length_map]; show 1 + _ ≤ _; omega)]
      walk_at "g"
      refine ⟨_, rfl, ?_⟩
      rw [Tm.sub, Tm.v, Tm.vs_map, Tm.subs_map, List.map_map]; rfl
/-- a tuple of terms -/
def tsV (ts : List Tm) : Vl := .tup (Tm.vs ts)
theorem v_tidied {n k : Nat} {ts : List Tm} (hk : n + 2 ≤ k) (ht : Tm.hts ts ≤ n) (hs : Tm.sizes ts < sizeLine) : pcall PT k "tidied" [tsV ts] = some (tsV (tidy ts), [some (tsV ts)]) := by
  obtain ⟨k, rfl, hk⟩ := lvl hk
  refine Ev.eq ?_
  rw [pcall_eq F_tidied K_tidied R_tidied rfl]
  have hl := Tm.sizes_len ts
  walk_at "g"
  refine ev_forp (σ := List Int × Option Vl) (fun s => [some (tsV ts), some (.lst (s.1.map .int)), s.2, none, none]) (fun pre s => ∃ us vs, ts = us ++ vs ∧ pre = Tm.vs us ∧ s.1 = Tm.occs us) ([], none) rfl ⟨[], ts, rfl, rfl, rfl⟩ ?_ ?_
  · rintro pre x post ⟨f, y⟩ e ⟨us, vs, e0, rfl, rfl⟩ K hK
    obtain ⟨us', t, r, e1, e2, rfl⟩ := vs_split e
    have eu : us' = us := by
      have h2 := congrArg List.length e2
      rw [vs_len, vs_len] at h2
      exact (List.append_inj (e1.symm.trans e0) h2.symm).1
    subst eu
    have tm : t ∈ ts := by rw [e1]; simp
    have := Tm.hts_le.mp ht t tm
    have ol := Tm.occs_len (us' ++ [t])
    have sl : Tm.sizes (us' ++ [t]) ≤ Tm.sizes ts := by rw [e1, Tm.sizes_append, Tm.sizes_append, Tm.sizes, Tm.sizes, Tm.sizes]; omega
    have e3 : Tm.occs (us' ++ [t]) = Tm.occs us' ++ t.occ := by rw [Tm.occs_append]; simp [Tm.occs]
    rw [e3, List.length_append] at ol
    dsimp only
    walk_at "g"
    rw [v_occurrences n (by omega) this (by have := Tm.size_mem tm; omega)]
    walk_at "g"
    rw [v_ext (by rw [List.length_map, List.length_map]; omega)]
    walk_at "g"
    have e4 : List.map Vl.int (Tm.occs us') ++ List.map Vl.int t.occ = (Tm.occs (us' ++ [t])).map Vl.int := by rw [e3, List.map_append]
    rw [e4]
    exact hK (Tm.occs (us' ++ [t]), _) ⟨us' ++ [t], r, by rw [e1]; simp, by rw [Tm.vs_map, Tm.vs_map]; simp, rfl⟩
  · rintro ⟨f, y⟩ ⟨us, vs, e, e2, rfl⟩
    have : us = ts := by
      have h := congrArg List.length e2
      rw [vs_len, vs_len] at h
      have h2 := congrArg List.length e
      rw [List.length_append] at h2
      have : vs = [] := List.length_eq_zero_iff.mp (by omega)
      rw [e, this, List.append_nil]
    subst this
    have ol := Tm.occs_len us
    have dl := dedup_len (Tm.occs us)
    dsimp only
    walk_at "g"
    rw [v_distinct (by omega) (by omega)]
    walk_at "g"
    rw [v_rng (small_len (by rw [List.length_map]; omega))]
    walk_at "g"
    refine ev_dcOf (xs := List.range (dedup (Tm.occs us)).length) (fun k => .int (0 + (k : Int))) Tm.v (fun k => ((dedup (Tm.occs us)).getD k default, .var (k : Int))) ?_ (by rw [List.length_range]; omega) ?_ ?_ ?_
    · unfold rgVl; rw [List.length_map, show (((dedup (Tm.occs us)).length : Int) - 0).toNat = (dedup (Tm.occs us)).length by omega]
    · rw [← nmF_range, nmF_keys]; exact dedup_nodup _
    · intro i hi K
      have hi := List.mem_range.mp hi
      walk_at "g"
      rw [v_ixl (x := .int ((dedup (Tm.occs us)).getD i default)) (by omega) (by rw [show (0 + (i : Int)).toNat = i by omega, List.getElem?_map, List.getD_eq_getElem?_getD, List.getElem?_eq_getElem hi]; rfl)]
      walk_at "g"
      rw [Int.zero_add]
      rfl
    · rw [← nmF_range]
      walk_at "g"
      refine ev_mapOf (xs := us) Tm.v (fun t => (t.sub (sb (nmF (dedup (Tm.occs us))))).v) (Tm.vs_map us) (by omega) ?_ ?_
      · intro t tm K
        have := Tm.hts_le.mp ht t tm
        walk_at "g"
        rw [v_substituted n (by omega) this (by have := Tm.size_mem tm; omega)]
        walk_at "g"
        rfl
      · walk_at "g"
        refine ⟨_, rfl, ?_⟩
        unfold tsV tidy
        rw [Tm.subs_map, Tm.vs_map (List.map _ us), List.map_map]; rfl

theorem v_numbers {n k : Nat} {ts : List Tm} (hk : n + 2 ≤ k) (ht : Tm.hts ts ≤ n) (hs : Tm.sizes ts < sizeLine) : pcall PT k "_law_numbers" [tsV ts] = some (.lst ((dedup (Tm.occs ts)).map .int), [some (tsV ts)]) := by
  obtain ⟨k, rfl, hk⟩ := lvl hk
  refine Ev.eq ?_
  rw [pcall_eq F__law_numbers K__law_numbers R__law_numbers rfl]
  walk_at "g"
  refine ev_forp (σ := List Int × Option Vl) (fun s => [some (tsV ts), some (.lst (s.1.map .int)), s.2]) (fun pre s => ∃ us vs, ts = us ++ vs ∧ pre = Tm.vs us ∧ s.1 = Tm.occs us) ([], none) rfl ⟨[], ts, rfl, rfl, rfl⟩ ?_ ?_
  · rintro pre x post ⟨f, y⟩ e ⟨us, vs, e0, rfl, rfl⟩ K hK
    obtain ⟨us', t, r, e1, e2, rfl⟩ := vs_split e
    have eu : us' = us := by
      have h2 := congrArg List.length e2
      rw [vs_len, vs_len] at h2
      exact (List.append_inj (e1.symm.trans e0) h2.symm).1
    subst eu
    have tm : t ∈ ts := by rw [e1]; simp
    have := Tm.hts_le.mp ht t tm
    have ol := Tm.occs_len (us' ++ [t])
    have sl : Tm.sizes (us' ++ [t]) ≤ Tm.sizes ts := by rw [e1, Tm.sizes_append, Tm.sizes_append, Tm.sizes, Tm.sizes, Tm.sizes]; omega
    have e3 : Tm.occs (us' ++ [t]) = Tm.occs us' ++ t.occ := by rw [Tm.occs_append]; simp [Tm.occs]
    rw [e3, List.length_append] at ol
    dsimp only
    walk_at "g"
    rw [v_law_occurrences n (by omega) this (by have := Tm.size_mem tm; omega)]
    walk_at "g"
    rw [v_addl (by rw [List.length_map, List.length_map]; omega)]
    walk_at "g"
    have e4 : List.map Vl.int (Tm.occs us') ++ List.map Vl.int t.occ = (Tm.occs (us' ++ [t])).map Vl.int := by rw [e3, List.map_append]
    rw [e4]
    exact hK (Tm.occs (us' ++ [t]), _) ⟨us' ++ [t], r, by rw [e1]; simp, by rw [Tm.vs_map, Tm.vs_map]; simp, rfl⟩
  · rintro ⟨f, y⟩ ⟨us, vs, e, e2, rfl⟩
    have : us = ts := by
      have h := congrArg List.length e2
      rw [vs_len, vs_len] at h
      have h2 := congrArg List.length e
      rw [List.length_append] at h2
      have : vs = [] := List.length_eq_zero_iff.mp (by omega)
      rw [e, this, List.append_nil]
    subst this
    have ol := Tm.occs_len us
    dsimp only
    walk_at "g"
    rw [v_unlike (by omega) (by omega)]
    walk_at "g"
    exact ⟨_, rfl, rfl⟩
theorem v_renumbered {n k : Nat} {ts : List Tm} (hk : n + 3 ≤ k) (ht : Tm.hts ts ≤ n) (hs : Tm.sizes ts < sizeLine) : pcall PT k "_law_renumbered" [tsV ts] = some (tsV (tidy ts), [some (tsV ts)]) := by
  obtain ⟨k, rfl, hk⟩ := lvl hk
  refine Ev.eq ?_
  rw [pcall_eq F__law_renumbered K__law_renumbered R__law_renumbered rfl]
  have hl := Tm.sizes_len ts
  have ol := Tm.occs_len ts
  have dl := dedup_len (Tm.occs ts)
  walk_at "g"
  rw [v_numbers (n := n) (by omega) ht hs]
  walk_at "g"
  rw [v_rng (small_len (by rw [List.length_map]; omega)), List.length_map]
  walk_at "g"
  generalize hN : dedup (Tm.occs ts) = N
  have nd : N.Nodup := hN ▸ dedup_nodup _
  rw [hN] at dl
  refine ev_forp (σ := List (Int × Tm) × Option Vl) (fun s => [some (tsV ts), some (.lst (N.map .int)), some (.dic (dK Tm.v s.1)), s.2, none]) (fun pre s => s.1 = nmF (N.take pre.length)) ([], none) (by rfl) rfl ?_ ?_
  · rintro pre x post ⟨f, y⟩ e rfl K hK
    obtain ⟨hi, rfl⟩ := rg_at e
    dsimp only
    walk_at "g"
    rw [v_ixl (x := .int N[pre.length]) (by omega) (by rw [Int.toNat_natCast, List.getElem?_map, List.getElem?_eq_getElem hi]; rfl)]
    walk_at "g"
    have nn : N[pre.length] ∉ (nmF (N.take pre.length)).map Prod.fst := by
      rw [nmF_keys]
      intro hm
      obtain ⟨j, hj, ej⟩ := List.getElem_of_mem hm
      rw [List.length_take] at hj
      rw [List.getElem_take] at ej
      exact List.pairwise_iff_getElem.mp nd j pre.length (by omega) hi (by omega) ej
    rw [show vSet _ _ (.int (pre.length : Int)) = _ from v_setd (g := Tm.v) (x := .var (pre.length : Int)) nn (by rw [nmF_len, List.length_take]; omega)]
    walk_at "g"
    refine hK (_, _) ?_
    show nmF _ ++ _ = nmF _
    rw [List.length_append, List.length_singleton, List.take_add_one, List.getElem?_eq_getElem hi]
    show _ = nmF (_ ++ [_])
    rw [nmF_snoc, List.length_take, show min pre.length N.length = pre.length by omega]
  · rintro ⟨f, y⟩ rfl
    rw [rg_len, List.take_length]
    dsimp only
    walk_at "g"
    refine ev_mapOf (xs := ts) Tm.v (fun t => (t.sub (sb (nmF N))).v) (Tm.vs_map ts) (by omega) ?_ ?_
    · intro t tm K
      have := Tm.hts_le.mp ht t tm
      walk_at "g"
      rw [v_replace n (by omega) this (by have := Tm.size_mem tm; omega)]
      walk_at "g"
      rfl
    · walk_at "g"
      refine ⟨_, rfl, ?_⟩
      unfold tsV tidy
      rw [hN, Tm.subs_map, Tm.vs_map (List.map _ ts), List.map_map]; rfl
theorem SgOk.sub {s : Sg} (h : SgOk s) {ms : List Mk} (mem : ∀ m ∈ ms, m ∈ s.ms) (nd : (ms.map Mk.w).Nodup) (l : ms.length ≤ 8) : SgOk ⟨s.c, s.fs, ms⟩ :=
  ⟨h.cons, h.f1, h.f4, h.fn, h.fw, fun m hm => h.mks m (mem m hm), fun m hm => h.mw m (mem m hm), nd, l⟩
/-- a goal as a value -/
def glV (g : List (Str × Tm)) : Vl := .tup (g.map kiV)
/-- what a spaced goal keeps -/
def glOk2 (s : Sg) (g : List (Str × Tm)) : Prop := ∀ a ∈ g, a.1 ∈ s.fs ∧ a.2.ok s.c = true ∧ a.2.ht ≤ 3 ∧ ∀ i ∈ a.2.occ, 0 ≤ i ∧ i ≤ 9
theorem DV.len {z : Str} {b n m : Nat} (h : DV (.str z) b n m) : z.length ≤ m := h.str'.2
theorem ht_pos (t : Tm) : 1 ≤ t.ht := by cases t <;> simp [Tm.ht]
theorem fmt_small {i : Int} (h : 0 ≤ i ∧ i ≤ 9) : vFmt (.int i) = some (.str ⟨#[48 + i.toNat]⟩) := by
  have : i = 0 ∨ i = 1 ∨ i = 2 ∨ i = 3 ∨ i = 4 ∨ i = 5 ∨ i = 6 ∨ i = 7 ∨ i = 8 ∨ i = 9 := by omega
  rcases this with rfl | rfl | rfl | rfl | rfl | rfl | rfl | rfl | rfl | rfl <;> (refine (gd_pos (by decide)).trans ?_) <;> kernel_rfl
theorem strsV_map : ∀ ys : List Str, strsV (ys.map .str) = some ys
  | [] => rfl
  | y :: r => by rw [List.map_cons, strsV, strsV_map r]; rfl
theorem join_cps : ∀ (t : Tm) (ts : List Tm), (Str.join (Str.ofString ",") ((t :: ts).map wrS)).cps.toList ++ [41] = wrL t ++ wrT ts
  | t, [] => rfl
  | t, u :: ts => by
    show ((wrS t ++ Str.ofString ",") ++ Str.join (Str.ofString ",") ((u :: ts).map wrS)).cps.toList ++ [41] = _
    rw [app_cps, app_cps, List.append_assoc, List.append_assoc, join_cps u ts]
    rfl
theorem wrS_app {w : Str} {t : Tm} {ts : List Tm} : w ++ Str.ofString "(" ++ Txt.join (Str.ofString ",") ((t :: ts).map wrS) ++ Str.ofString ")" = wrS (.app w (t :: ts)) := by
  refine cps_inj ?_
  rw [app_cps, app_cps, app_cps, Txt.join, StrLaws.glued_eq_join]
  show _ ++ [40] ++ _ ++ [41] = _
  rw [List.append_assoc, List.append_assoc, join_cps t ts]
  rfl
theorem wrS_sum : ∀ {ts : List Tm}, Tm.woks ts = true → ((ts.map wrS).map (·.length)).sum ≤ 16 * Tm.sizes ts
  | [], _ => by simp
  | t :: ts, h => by
    simp only [Tm.woks, Bool.and_eq_true] at h
    have h1 := wrL_len h.1
    have h2 := wrS_sum h.2
    rw [List.map_cons, List.map_cons, List.sum_cons, Tm.sizes, wrS_len]; omega
theorem woks_mem : ∀ {ts : List Tm} {t : Tm}, Tm.woks ts = true → t ∈ ts → t.wok = true
  | u :: ts, t, h, m => by
    simp only [Tm.woks, Bool.and_eq_true] at h
    rcases List.mem_cons.mp m with rfl | m
    · exact h.1
    · exact woks_mem h.2 m
theorem v_join_strs {z : Str} {ys : List Str} (h : (ys.map (·.length)).sum + ys.length * z.length ≤ 16777216) : vJoin (.str z) (.lst (ys.map .str)) = some (.str (Txt.join z ys)) := by
  show ob (strsV (ys.map .str)) _ = _
  rw [strsV_map]
  exact gd_pos h
theorem v_write_term : ∀ (n : Nat) {k : Nat} {t : Tm}, n ≤ k → t.ht ≤ n → t.wok = true → t.size ≤ 10000 → pcall PT k "write_term" [t.v] = some (.str (wrS t), [some t.v]) := by
  intro n
  induction n with
  | zero => intro k t _ h; have := ht_pos t; omega
  | succ n ih =>
    intro k t hk h hw hs
    obtain ⟨k, rfl, hk⟩ := lvl (k := n) hk
    refine Ev.eq ?_
    have hz : sizeLine = 16777216 := by decide
    rw [pcall_eq F_write_term K_write_term R_write_term rfl]
    cases t with
    | var i =>
      simp only [Tm.wok, Bool.and_eq_true, decide_eq_true_eq] at hw
      walk_at "g"
      rw [show vFmt (Tm.var i).v = _ from fmt_small hw]
      walk_at "g"
      rw [pd_true (show ((⟨#[]⟩ : Str) ++ Str.ofString "x" ++ ⟨#[48 + i.toNat]⟩).length ≤ sizeLine from (by show 2 ≤ 16777216; decide))]
      walk_at "g"
      exact ⟨_, rfl, rfl⟩
    | app w ts =>
      simp only [Tm.wok, Bool.and_eq_true] at hw
      rw [Tm.ht] at h
      rw [Tm.size] at hs
      have hwl := (wordB_ok hw.1).2
      have hsl := Tm.sizes_len ts
      by_cases h0 : ts = []
      · subst h0
        walk_at "g"
        refine ⟨_, rfl, ?_⟩
        have : w = wrS (.app w []) := cps_inj (by rw [wrS_cps, wrL, wrA, List.append_nil])
        rw [← this]; rfl
      · have hl : ¬ (((Vl.str w :: Tm.vs ts).length : Int) = 1) := by
          rw [List.length_cons, vs_len]
          have := List.length_pos_iff.mpr h0
          omega
        walk_at "g"
        rw [decide_eq_false hl]
        walk_at "g"
        rw [v_adds (by show w.length + 1 ≤ _; omega)]
        walk_at "g"
        refine ev_mapOf (xs := ts) Tm.v (fun a => .str (wrS a)) (by rw [← Tm.vs_map]) (by omega) ?_ ?_
        · intro a ha K
          have h1 := Tm.hts_le.mp (show Tm.hts ts ≤ n by omega) a ha
          walk_at "g"
          rw [ih (by omega) h1 (woks_mem hw.2 ha) (by have := Tm.size_mem ha; omega)]
          walk_at "g"
          rfl
        · have hsum := wrS_sum hw.2
          have e : (ts.map fun a => Vl.str (wrS a)) = (ts.map wrS).map .str := by rw [List.map_map]; rfl
          rw [e]
          walk_at "w"
          rw [v_join_strs (by rw [List.length_map]; show _ + _ * 1 ≤ _; omega)]
          walk_at "g"
          obtain ⟨t, r, rfl⟩ := List.exists_cons_of_ne_nil h0
          have jl : (Txt.join (Str.ofString ",") ((t :: r).map wrS)).length + 1 ≤ 16 * Tm.sizes (t :: r) + 20 := by
            have h1 := congrArg List.length (join_cps t r)
            have h2 := wrA_len hw.2
            rw [wrA, List.length_cons] at h2
            rw [List.length_append, Array.length_toList] at h1
            rw [Txt.join, StrLaws.glued_eq_join]
            show Array.size _ + 1 ≤ _
            simp only [List.length_cons, List.length_nil] at h1
            omega
          rw [v_adds (by rw [len_append]; show w.length + 1 + _ ≤ _; omega)]
          walk_at "g"
          rw [v_adds (by rw [len_append, len_append]; show w.length + 1 + _ + 1 ≤ _; omega)]
          walk_at "g"
          exact ⟨_, rfl, by rw [wrS_app]; rfl⟩

theorem DV_sub {b N M : Nat} : ∀ w ts, DV (Tm.app w ts).v b N M → ∀ t ∈ ts, DV t.v b N M := by
  intro w ts h t ht
  rw [Tm.v] at h
  obtain ⟨k, rfl, hd⟩ := h.un
  exact (hd.mem (List.mem_cons_of_mem _ (by rw [Tm.vs_map]; exact List.mem_map_of_mem ht))).w (Nat.le_refl _) (Nat.le_succ _) (Nat.le_refl _)
mutual
theorem taken_all {P : Tm → Prop} (sub : ∀ w ts, P (.app w ts) → ∀ t ∈ ts, P t) : ∀ (g t : Tm) (G : List (Int × Tm)), P t → (∀ z ∈ G, P z.2) → ∀ z ∈ (taken g t G).2, P z.2
  | .var i, t, G, hp, h => by
    rw [taken]
    split
    · exact h
    · intro z hz
      rcases List.mem_append.mp hz with hz | hz
      · exact h z hz
      · rw [List.mem_singleton.mp hz]; exact hp
  | .app w ts, .var j, G, hp, h => by rw [taken]; exact h
  | .app w ts, .app u us, G, hp, h => by
    rw [taken]
    split
    · exact takens_all sub ts us G (sub _ _ hp) h
    · exact h
theorem takens_all {P : Tm → Prop} (sub : ∀ w ts, P (.app w ts) → ∀ t ∈ ts, P t) : ∀ (gs us : List Tm) (G : List (Int × Tm)), (∀ t ∈ us, P t) → (∀ z ∈ G, P z.2) → ∀ z ∈ (takens gs us G).2, P z.2
  | [], _, G, _, h => by rw [takens]; exact h
  | _ :: _, [], G, _, h => by rw [takens]; exact h
  | g :: gs, u :: us, G, hp, h => by
    have h1 := taken_all sub g u G (hp u (List.mem_cons_self ..)) h
    rw [takens]
    split
    · exact takens_all sub gs us _ (fun x hx => hp x (List.mem_cons_of_mem _ hx)) h1
    · exact h1
end
mutual
theorem taken_len : ∀ (g t : Tm) (G : List (Int × Tm)), (taken g t G).2.length ≤ G.length + g.size
  | .var i, t, G => by
    rw [taken, Tm.size]
    split
    · exact Nat.le_succ _
    · rw [List.length_append]; exact Nat.le_refl _
  | .app w ts, .var j, G => by rw [taken]; exact Nat.le_add_right ..
  | .app w ts, .app u us, G => by
    have := takens_len ts us G
    rw [taken, Tm.size]
    split
    · omega
    · exact Nat.le_add_right ..
theorem takens_len : ∀ (gs us : List Tm) (G : List (Int × Tm)), (takens gs us G).2.length ≤ G.length + Tm.sizes gs
  | [], _, G => by rw [takens]; exact Nat.le_add_right ..
  | _ :: _, [], G => by rw [takens]; exact Nat.le_add_right ..
  | g :: gs, u :: us, G => by
    have h1 := taken_len g u G
    have h2 := takens_len gs us (taken g u G).2
    rw [takens, Tm.sizes]
    split
    · omega
    · show (taken g u G).2.length ≤ _; omega
end
theorem len_dec {w u : Str} {ts us : List Tm} : decide ((((Vl.str w :: Tm.vs ts).length : Nat) : Int) = (((Vl.str u :: Tm.vs us).length : Nat) : Int)) = decide (ts.length = us.length) := by
  rw [Bool.eq_iff_iff, decide_eq_true_eq, decide_eq_true_eq]
  simp only [List.length_cons, vs_len]; omega
theorem rg1_len {n : Nat} : (rgVl 1 ((n : Int) + 1)).length = n := by unfold rgVl; simp
theorem rg1_at {n : Nat} {pre post : List Vl} {x : Vl} (h : rgVl 1 ((n : Int) + 1) = pre ++ x :: post) : pre.length < n ∧ x = .int (1 + (pre.length : Int)) := by
  have hl := congrArg List.length h
  rw [rg1_len, List.length_append, List.length_cons] at hl
  have e : (rgVl 1 ((n : Int) + 1))[pre.length]? = some x := by rw [h, List.getElem?_append_right (Nat.le_refl _), Nat.sub_self]; rfl
  refine ⟨by omega, ?_⟩
  unfold rgVl at e
  rw [List.getElem?_map, List.getElem?_range (by omega)] at e
  injection e with e
  rw [← e]
set_option maxHeartbeats 1000000 in
theorem v_law_taken {b N M : Nat} (hN : N ≤ 64) : ∀ (n : Nat) {k : Nat} {g t : Tm} {G : List (Int × Tm)}, n + 1 ≤ k → g.ht ≤ n → DV t.v b N M → (∀ z ∈ G, DV z.2.v b N M) → G.length + g.size ≤ 10000 → pcall PT k "_law_taken" [g.v, t.v, .dic (dK Tm.v G)] = some (.bl (taken g t G).1, [some g.v, some t.v, some (.dic (dK Tm.v (taken g t G).2))]) := by
  intro n
  induction n with
  | zero => intro k g t G _ h; have := ht_pos g; omega
  | succ n ih =>
    intro k g t G hk h dt dG hs
    obtain ⟨k, rfl, hk⟩ := lvl (k := n + 1) hk
    refine Ev.eq ?_
    have hz : sizeLine = 16777216 := by decide
    rw [pcall_eq F__law_taken K__law_taken R__law_taken rfl]
    cases g with
    | var i =>
      walk_at "g"
      rw [v_is_integer (by omega)]
      walk_at "g"
      rw [getV_dK]
      rw [Tm.size] at hs
      cases e : G.lookup i with
      | none =>
        have nn : i ∉ G.map Prod.fst := fun hm => by
          obtain ⟨z, hz, rfl⟩ := List.mem_map.mp hm
          exact absurd rfl (bne_iff_ne.mp (List.lookup_eq_none_iff.mp e z hz))
        walk_at "g"
        rw [show vSet (.dic (dK Tm.v G)) (Tm.var i).v t.v = _ from v_setd (g := Tm.v) (x := t) nn (by omega)]
        walk_at "g"
        exact ⟨_, rfl, by rw [taken, e]; rfl⟩
      | some u =>
        walk_at "g"
        rw [show vIx (.dic (dK Tm.v G)) (Tm.var i).v = (G.lookup i).map Tm.v from v_ixd, e]
        walk_at "g"
        rw [vEq_tm (dG _ (look_mem e)) dt hN hN]
        walk_at "g"
        exact ⟨_, rfl, by rw [taken, e]; rfl⟩
    | app w ts =>
      rw [Tm.ht] at h
      rw [Tm.size] at hs
      have hsl := Tm.sizes_len ts
      walk_at "g"
      rw [v_is_integer (by omega)]
      walk_at "g"
      rw [v_is_integer (by omega)]
      cases t with
      | var j =>
        walk_at "g"
        exact ⟨_, rfl, by rw [taken]; rfl⟩
      | app u us =>
        have dts := fun x hx => DV_sub u us dt x hx
        walk_at "g"
        by_cases hw : w = u
        · rw [decide_eq_true hw]
          walk_at "g"
          rw [len_dec]
          by_cases hl : ts.length = us.length
          · rw [decide_eq_true hl]
            walk_at "g"
            have e1 : (((Vl.str u :: Tm.vs us).length : Nat) : Int) = (us.length : Int) + 1 := by rw [List.length_cons, vs_len]; omega
            rw [e1, v_rng2 ⟨⟨by omega, by omega⟩, ⟨by omega, by omega⟩⟩]
            have ef : taken (.app w ts) (.app u us) G = takens ts us G := by rw [taken, if_pos ⟨hw, hl⟩]
            refine ev_forp (σ := List (Int × Tm) × Option Vl) (fun s => [some (Tm.app w ts).v, some (Tm.app u us).v, some (.dic (dK Tm.v s.1)), s.2]) (fun pre s => takens (ts.drop pre.length) (us.drop pre.length) s.1 = takens ts us G ∧ (∀ z ∈ s.1, DV z.2.v b N M) ∧ s.1.length + Tm.sizes (ts.drop pre.length) ≤ 9999) (G, none) rfl ⟨rfl, dG, by show G.length + Tm.sizes ts ≤ 9999; omega⟩ ?_ ?_
            · rintro pre x post ⟨G1, y⟩ e ⟨i1, i2, i3⟩ K hK
              obtain ⟨hi, rfl⟩ := rg1_at e
              have hi' : pre.length < ts.length := by omega
              dsimp only at i1 i2 i3 ⊢
              rw [List.drop_eq_getElem_cons hi, List.drop_eq_getElem_cons hi', takens] at i1
              rw [List.drop_eq_getElem_cons hi', Tm.sizes] at i3
              have tm : ts[pre.length] ∈ ts := List.getElem_mem hi'
              have h1 := Tm.hts_le.mp (show Tm.hts ts ≤ n by omega) _ tm
              have du := dts _ (List.getElem_mem hi)
              have tl := taken_len ts[pre.length] us[pre.length] G1
              walk_at "g"
              rw [show vIx (Tm.app w ts).v (.int (1 + (pre.length : Int))) = some ts[pre.length].v from v_ixt (by omega) (by
                rw [show (1 + (pre.length : Int)).toNat = pre.length + 1 by omega, List.getElem?_cons_succ, Tm.vs_map, List.getElem?_map, List.getElem?_eq_getElem hi']; rfl)]
              walk_at "g"
              rw [show vIx (Tm.app u us).v (.int (1 + (pre.length : Int))) = some us[pre.length].v from v_ixt (by omega) (by
                rw [show (1 + (pre.length : Int)).toNat = pre.length + 1 by omega, List.getElem?_cons_succ, Tm.vs_map, List.getElem?_map, List.getElem?_eq_getElem hi]; rfl)]
              walk_at "g"
              rw [ih (by omega) h1 du i2 (by omega)]
              walk_at "g"
              cases eb : (taken ts[pre.length] us[pre.length] G1).1 with
              | true =>
                walk_at "g"
                rw [eb, if_pos rfl] at i1
                refine hK (_, _) ⟨?_, taken_all (P := fun t => DV t.v b N M) DV_sub _ _ _ du i2, ?_⟩
                · rw [List.length_append]; exact i1
                · rw [List.length_append]; show (taken ts[pre.length] us[pre.length] G1).2.length + Tm.sizes (ts.drop (pre.length + 1)) ≤ _; omega
              | false =>
                walk_at "g"
                refine ⟨_, rfl, ?_⟩
                rw [eb, if_neg Bool.false_ne_true] at i1
                rw [ef, ← i1]; rfl
            · rintro ⟨G1, y⟩ ⟨i1, i2, i3⟩
              rw [rg1_len, List.drop_of_length_le (Nat.le_of_eq hl), takens] at i1
              walk_at "g"
              refine ⟨_, rfl, ?_⟩
              rw [ef, ← i1]; rfl
          · rw [decide_eq_false hl]
            walk_at "g"
            exact ⟨_, rfl, by rw [taken, if_neg (fun c => hl c.2)]; rfl⟩
        · rw [decide_eq_false hw]
          walk_at "g"
          exact ⟨_, rfl, by rw [taken, if_neg (fun c => hw c.1)]; rfl⟩
theorem v_is_instance {b N M : Nat} (hN : N ≤ 64) {n k : Nat} {g t : Tm} (hk : n + 2 ≤ k) (h : g.ht ≤ n) (dt : DV t.v b N M) (hs : g.size ≤ 10000) : pcall PT k "_law_is_instance" [g.v, t.v] = some (.bl (instB g t), [some g.v, some t.v]) := by
  obtain ⟨k, rfl, hk⟩ := lvl (k := n + 1) hk
  refine Ev.eq ?_
  rw [pcall_eq F__law_is_instance K__law_is_instance R__law_is_instance rfl]
  walk_at "g"
  rw [show pcall PT k _ [g.v, t.v, .dic []] = _ from v_law_taken (G := []) hN n (by omega) h dt (fun z hz => nomatch hz) (by simpa using hs)]
  walk_at "g"
  exact ⟨_, rfl, rfl⟩

def pairV (z : Tm × Tm) : Vl := .tup [z.1.v, z.2.v]
mutual
theorem lgg_ht : ∀ (p q : Tm) (K : List (Tm × Tm)), (lgg p q K).1.ht ≤ p.ht
  | .var i, q, K => by rw [lgg, slot]; split <;> exact Nat.le_refl _
  | .app w ts, .var j, K => by rw [lgg, slot]; split <;> exact ht_pos _
  | .app w ts, .app u us, K => by
    have h1 := ht_pos (.app w ts)
    have h2 := lggs_ht ts us K
    rw [lgg]
    split
    · show 1 + Tm.hts (lggs ts us K).1 ≤ 1 + Tm.hts ts; omega
    · rw [slot]; split <;> exact h1
theorem lggs_ht : ∀ (ts us : List Tm) (K : List (Tm × Tm)), Tm.hts (lggs ts us K).1 ≤ Tm.hts ts
  | [], _, K => by rw [lggs]; exact Nat.le_refl _
  | _ :: _, [], K => by rw [lggs]; exact Nat.zero_le _
  | t :: ts, u :: us, K => by
    have h1 := lgg_ht t u K
    have h2 := lggs_ht ts us (lgg t u K).2
    rw [lggs, Tm.hts, Tm.hts]; omega
end
mutual
theorem lgg_size : ∀ (p q : Tm) (K : List (Tm × Tm)), (lgg p q K).1.size ≤ p.size
  | .var i, q, K => by rw [lgg, slot]; split <;> exact Nat.le_refl _
  | .app w ts, .var j, K => by rw [lgg, slot]; split <;> exact Tm.size_pos _
  | .app w ts, .app u us, K => by
    have h1 := Tm.size_pos (.app w ts)
    have h2 := lggs_size ts us K
    rw [lgg]
    split
    · show 1 + Tm.sizes (lggs ts us K).1 ≤ 1 + Tm.sizes ts; omega
    · rw [slot]; split <;> exact h1
theorem lggs_size : ∀ (ts us : List Tm) (K : List (Tm × Tm)), Tm.sizes (lggs ts us K).1 ≤ Tm.sizes ts
  | [], _, K => by rw [lggs]; exact Nat.le_refl _
  | _ :: _, [], K => by rw [lggs]; exact Nat.zero_le _
  | t :: ts, u :: us, K => by
    have h1 := lgg_size t u K
    have h2 := lggs_size ts us (lgg t u K).2
    rw [lggs, Tm.sizes, Tm.sizes]; omega
end
/-- what the table of texts asks of its pairs -/
def tabW (K : List (Tm × Tm)) : Prop := ∀ z ∈ K, z.1.wok = true ∧ z.2.wok = true
theorem tab_inj {K : List (Tm × Tm)} {z : Tm × Tm} (h : tabW K) (hz : z.1.wok = true ∧ z.2.wok = true) : ∀ y ∈ K, keyS y = keyS z → y = z := fun y hy e => keyS_inj hz (h y hy) e
theorem wok_sub : ∀ w ts, (Tm.app w ts).wok = true → ∀ t ∈ ts, t.wok = true := fun w ts h t ht => by
  simp only [Tm.wok, Bool.and_eq_true] at h
  exact woks_mem h.2 ht
theorem v_joined_slot {n k : Nat} (hk : n ≤ k) {p q : Tm} {K : List (Tm × Tm)} (hp : p.wok = true) (hq : q.wok = true) (np : p.ht ≤ n) (nq : q.ht ≤ n) (sp : p.size ≤ 10000) (sq : q.size ≤ 10000) (hK : tabW K) (hl : K.length ≤ 10000) :
    Ev (pk (pcall PT k) PT false (fn_joined.body.drop 1) kd_joined [some p.v, some q.v, some (.dic (dW 0 K)), none, none] { nx := fun env => some (.non, env.take 3), rt := fun v env => some (v, env.take 3) }) fun r => r = ((slot p q K).1.v, [some p.v, some q.v, some (.dic (dW 0 (slot p q K).2))]) := by
  have hz : sizeLine = 16777216 := by decide
  have l1 := wrL_len hp
  have l2 := wrL_len hq
  walk_at "g"
  rw [v_write_term n (by omega) np hp sp]
  walk_at "g"
  rw [v_adds (by rw [wrS_len]; show _ + 1 ≤ _; omega)]
  walk_at "g"
  rw [v_write_term n (by omega) nq hq sq]
  walk_at "g"
  rw [v_adds (by rw [len_append, wrS_len, wrS_len]; show _ + 1 + _ ≤ _; omega)]
  walk_at "g"
  rw [pd_true (show (dW 0 K).length < sizeLine by rw [dW_len]; omega)]
  rw [show getV (dW 0 K) (Sum.inr (wrS p ++ Str.ofString " " ++ wrS q)) = _ from dW_get 0 K (p, q) (tab_inj hK ⟨hp, hq⟩)]
  by_cases m : (p, q) ∈ K
  · rw [if_pos m]
    walk_at "g"
    exact ⟨_, rfl, by rw [slot, if_pos m, Nat.zero_add]; rfl⟩
  · rw [if_neg m]
    walk_at "g"
    refine ⟨_, rfl, ?_⟩
    rw [dW_len]
    rw [show putV (dW 0 K) (Sum.inr (wrS p ++ Str.ofString " " ++ wrS q)) (.int (K.length : Nat)) = _ from dW_put (z := (p, q)) (tab_inj hK ⟨hp, hq⟩) m]
    rw [slot, if_neg m]; rfl
theorem zip_len {ts us : List Tm} (hl : ts.length = us.length) : (((Tm.vs ts).zip (Tm.vs us)).map fun p => Vl.tup [p.1, p.2]).length = ts.length := by
  rw [List.length_map, List.length_zip, vs_len, vs_len]; omega
theorem zip_at {ts us : List Tm} (hl : ts.length = us.length) {pre post : List Vl} {x : Vl} (e : (((Tm.vs ts).zip (Tm.vs us)).map fun p => Vl.tup [p.1, p.2]) = pre ++ x :: post) : ∃ (h : pre.length < ts.length) (h' : pre.length < us.length), x = .tup [ts[pre.length].v, us[pre.length].v] := by
  have h1 := congrArg List.length e
  rw [zip_len hl, List.length_append, List.length_cons] at h1
  refine ⟨by omega, by omega, ?_⟩
  have h2 : (((Tm.vs ts).zip (Tm.vs us)).map fun p => Vl.tup [p.1, p.2])[pre.length]? = some x := by rw [e, List.getElem?_append_right (Nat.le_refl _), Nat.sub_self]; rfl
  rw [List.getElem?_map, (List.getElem?_zip_eq_some (z := (ts[pre.length].v, us[pre.length].v))).mpr ⟨(show (Tm.vs ts)[pre.length]? = some ts[pre.length].v by rw [Tm.vs_map, List.getElem?_map, List.getElem?_eq_getElem (by omega)]; rfl), (show (Tm.vs us)[pre.length]? = some us[pre.length].v by rw [Tm.vs_map, List.getElem?_map, List.getElem?_eq_getElem (by omega)]; rfl)⟩] at h2
  injection h2 with h2
  exact h2.symm
set_option maxHeartbeats 1000000 in
theorem v_joined : ∀ (n : Nat) {k m : Nat} {p q : Tm} {K : List (Tm × Tm)}, n + m ≤ k → p.ht ≤ n → p.ht ≤ m → q.ht ≤ m → p.wok = true → q.wok = true → q.size ≤ 10000 → tabW K → K.length + p.size ≤ 10000 → pcall PT k "joined" [p.v, q.v, .dic (dW 0 K)] = some ((lgg p q K).1.v, [some p.v, some q.v, some (.dic (dW 0 (lgg p q K).2))]) := by
  intro n
  induction n with
  | zero => intro k m p q K _ h; have := ht_pos p; omega
  | succ n ih =>
    intro k m p q K hk h hm hm' wp wq sq dK hs
    obtain ⟨k, rfl, hk⟩ := lvl (k := n + m) (show n + m + 1 ≤ k by omega)
    refine Ev.eq ?_
    have hz : sizeLine = 16777216 := by decide
    rw [pcall_eq F_joined K_joined R_joined rfl]
    cases p with
    | var i =>
      rw [show lgg (.var i) q K = slot (.var i) q K by rw [lgg]]
      rw [Tm.size] at hs
      exact v_joined_slot (k := k) (n := m) (p := .var i) (by omega) wp wq hm hm' (by rw [Tm.size]; omega) sq dK (by omega)
    | app w ts =>
      rw [Tm.ht] at h
      have hs0 := hs
      rw [Tm.size] at hs
      have hsl := Tm.sizes_len ts
      cases q with
      | var j =>
        rw [show lgg (.app w ts) (.var j) K = slot (.app w ts) (.var j) K by rw [lgg]]
        exact v_joined_slot (k := k) (n := m) (by omega) wp wq hm hm' (by omega) sq dK (by omega)
      | app u us =>
        walk_at "g"
        by_cases hw : w = u
        · rw [decide_eq_true hw]
          walk_at "g"
          rw [len_dec]
          by_cases hl : ts.length = us.length
          · rw [decide_eq_true hl]
            walk_at "g"
            have ef : lgg (.app w ts) (.app u us) K = (.app w (lggs ts us K).1, (lggs ts us K).2) := by rw [lgg, if_pos ⟨hw, hl⟩]
            rw [ef]
            rw [Tm.ht] at hm hm'
            rw [Tm.size] at sq
            have zl := zip_len hl
            simp only [Tm.wok, Bool.and_eq_true] at wp wq
            refine ev_lc (fun K1 : List (Tm × Tm) => [some (Tm.app w ts).v, some (Tm.app u us).v, some (.dic (dW 0 K1)), none, none]) (fun pre acc K1 => ∃ rs : List Tm, acc = Tm.vs rs ∧ rs.length = pre.length ∧ lggs ts us K = (rs ++ (lggs (ts.drop pre.length) (us.drop pre.length) K1).1, (lggs (ts.drop pre.length) (us.drop pre.length) K1).2) ∧ tabW K1 ∧ K1.length + Tm.sizes (ts.drop pre.length) ≤ 9999) K rfl ⟨[], rfl, rfl, rfl, dK, by show K.length + Tm.sizes ts ≤ 9999; omega⟩ (by rw [zl]; omega) ?_ ?_
            · rintro pre x post acc K1 e ⟨rs, rfl, rl, i1, i2, i3⟩ C hC1 hC2
              obtain ⟨hi', hi, rfl⟩ := zip_at hl e
              rw [List.drop_eq_getElem_cons hi, List.drop_eq_getElem_cons hi', lggs] at i1
              rw [List.drop_eq_getElem_cons hi', Tm.sizes] at i3
              have tm : ts[pre.length] ∈ ts := List.getElem_mem hi'
              have um : us[pre.length] ∈ us := List.getElem_mem hi
              have h1 := Tm.hts_le.mp (Nat.le_refl (Tm.hts ts)) _ tm
              have h2 := Tm.hts_le.mp (Nat.le_refl (Tm.hts us)) _ um
              have h3 := Tm.size_mem um
              have w1 := woks_mem wp.2 tm
              have w2 := woks_mem wq.2 um
              have tl := lgg_len ts[pre.length] us[pre.length] K1
              walk_at "g"
              rw [pd_true (show [ts[pre.length].v, us[pre.length].v].length = [3, 4].length from rfl)]
              walk_at "g"
              rw [ih (m := m) (by omega) (by omega) (by omega) (by omega) w1 w2 (by omega) i2 (by omega)]
              walk_at "g"
              refine hC2 _ _ ⟨rs ++ [(lgg ts[pre.length] us[pre.length] K1).1], ?_, ?_, ?_, lgg_all (P := fun t => t.wok = true) wok_sub _ _ _ w1 w2 i2, ?_⟩
              · rw [Tm.vs_map, Tm.vs_map, List.map_append]; rfl
              · rw [List.length_append, List.length_append, rl]; rfl
              · rw [List.length_append]
                rw [i1, List.append_assoc]; rfl
              · rw [List.length_append]; show (lgg ts[pre.length] us[pre.length] K1).2.length + Tm.sizes (ts.drop (pre.length + 1)) ≤ _; omega
            · rintro acc K1 ⟨rs, rfl, rl, i1, i2, i3⟩ _
              rw [zl, List.drop_of_length_le (Nat.le_refl _), lggs] at i1
              rw [zl] at rl
              rw [i1, List.append_nil]
              walk_at "g"
              rw [v_addt (by rw [vs_len]; show 1 + _ ≤ _; omega)]
              walk_at "g"
              exact ⟨_, rfl, rfl⟩
          · rw [decide_eq_false hl]
            rw [show lgg (.app w ts) (.app u us) K = slot (.app w ts) (.app u us) K by rw [lgg, if_neg fun c => hl c.2]]
            exact v_joined_slot (k := k) (n := m) (by omega) wp wq hm hm' (by omega) sq dK (by omega)
        · rw [decide_eq_false hw]
          rw [show lgg (.app w ts) (.app u us) K = slot (.app w ts) (.app u us) K by rw [lgg, if_neg fun c => hw c.1]]
          exact v_joined_slot (k := k) (n := m) (by omega) wp wq hm hm' (by omega) sq dK (by omega)
theorem tidy_hd (t : Tm) : tidy [t] = [(tidy [t]).headD default] := by
  obtain ⟨g, h, _⟩ := tidy_one t
  rw [h]; rfl
theorem v_join {n k : Nat} {p q : Tm} (hk : n + n + 3 ≤ k) (hp : p.ht ≤ n) (hq : q.ht ≤ n) (wp : p.wok = true) (wq : q.wok = true) (sp : p.size ≤ 10000) (sq : q.size ≤ 10000) : pcall PT k "join" [p.v, q.v] = some ((joinT p q).v, [some p.v, some q.v]) := by
  obtain ⟨k, rfl, hk⟩ := lvl (k := n + n + 2) hk
  refine Ev.eq ?_
  have hz : sizeLine = 16777216 := by decide
  rw [pcall_eq F_join K_join R_join rfl]
  walk_at "g"
  rw [show pcall PT k _ [p.v, q.v, .dic []] = _ from v_joined n (m := n) (K := []) (by omega) hp hp hq wp wq sq (fun z hz => nomatch hz) (by simpa using sp)]
  walk_at "g"
  have lh := lgg_ht p q []
  have ls := lgg_size p q []
  rw [show pcall PT k _ [.tup [(lgg p q []).1.v]] = _ from v_tidied (ts := [(lgg p q []).1]) (n := n) (by omega) (by simp only [Tm.hts]; omega) (by simp only [Tm.sizes]; omega)]
  walk_at "g"
  exact ⟨_, rfl, rfl⟩
mutual
theorem ok_sub {c : List (Str × Int)} {f : Int → Tm} : ∀ {t : Tm}, t.ok c = true → (∀ i ∈ t.occ, (f i).ok c = true) → (t.sub f).ok c = true
  | .var i, _, h => h i (by simp [Tm.occ])
  | .app w ts, ho, h => by
    simp only [Tm.ok, Bool.and_eq_true, decide_eq_true_eq] at ho
    simp only [Tm.sub, Tm.ok, Bool.and_eq_true, decide_eq_true_eq]
    exact ⟨by rw [Tm.subs_map, List.length_map]; exact ho.1, oks_sub ho.2 h⟩
theorem oks_sub {c : List (Str × Int)} {f : Int → Tm} : ∀ {ts : List Tm}, Tm.oks c ts = true → (∀ i ∈ Tm.occs ts, (f i).ok c = true) → Tm.oks c (Tm.subs f ts) = true
  | [], _, _ => rfl
  | t :: ts, ho, h => by
    simp only [Tm.oks, Bool.and_eq_true] at ho
    simp only [Tm.subs, Tm.oks, Bool.and_eq_true]
    exact ⟨ok_sub ho.1 fun i hi => h i (by rw [Tm.occs]; exact List.mem_append_left _ hi), oks_sub ho.2 fun i hi => h i (by rw [Tm.occs]; exact List.mem_append_right _ hi)⟩
end
mutual
theorem ht_sub {m : Nat} {f : Int → Tm} : ∀ {t : Tm}, (∀ i ∈ t.occ, (f i).ht ≤ m) → (t.sub f).ht ≤ t.ht + m
  | .var i, h => by have := h i (by simp [Tm.occ]); rw [Tm.sub, Tm.ht]; omega
  | .app w ts, h => by have := hts_sub (ts := ts) h; rw [Tm.sub, Tm.ht, Tm.ht]; omega
theorem hts_sub {m : Nat} {f : Int → Tm} : ∀ {ts : List Tm}, (∀ i ∈ Tm.occs ts, (f i).ht ≤ m) → Tm.hts (Tm.subs f ts) ≤ Tm.hts ts + m
  | [], _ => Nat.zero_le _
  | t :: ts, h => by
    have h1 := ht_sub (t := t) fun i hi => h i (by rw [Tm.occs]; exact List.mem_append_left _ hi)
    have h2 := hts_sub (ts := ts) fun i hi => h i (by rw [Tm.occs]; exact List.mem_append_right _ hi)
    rw [Tm.subs, Tm.hts, Tm.hts]; omega
end
mutual
theorem wok_of {c : List (Str × Int)} (hc : ConsOk c) : ∀ {t : Tm}, t.ok c = true → (∀ i ∈ t.occ, 0 ≤ i ∧ i ≤ 9) → t.wok = true
  | .var i, _, h => by have := h i (by simp [Tm.occ]); simp only [Tm.wok, Bool.and_eq_true, decide_eq_true_eq]; exact this
  | .app w ts, ho, h => by
    simp only [Tm.ok, Bool.and_eq_true, decide_eq_true_eq] at ho
    simp only [Tm.wok, Bool.and_eq_true]
    exact ⟨hc.wd _ (mem_lookup ho.1), woks_of hc ho.2 h⟩
theorem woks_of {c : List (Str × Int)} (hc : ConsOk c) : ∀ {ts : List Tm}, Tm.oks c ts = true → (∀ i ∈ Tm.occs ts, 0 ≤ i ∧ i ≤ 9) → Tm.woks ts = true
  | [], _, _ => rfl
  | t :: ts, ho, h => by
    simp only [Tm.oks, Bool.and_eq_true] at ho
    simp only [Tm.woks, Bool.and_eq_true]
    exact ⟨wok_of hc ho.1 fun i hi => h i (by rw [Tm.occs]; exact List.mem_append_left _ hi), woks_of hc ho.2 fun i hi => h i (by rw [Tm.occs]; exact List.mem_append_right _ hi)⟩
end
theorem lggs_length : ∀ (ts us : List Tm) (K : List (Tm × Tm)), ts.length = us.length → (lggs ts us K).1.length = ts.length
  | [], _, K, _ => by rw [lggs]
  | _ :: _, [], K, h => by cases h
  | t :: ts, u :: us, K, h => by
    have := lggs_length ts us (lgg t u K).2 (Nat.succ.inj h)
    rw [lggs]
    show (lggs ts us (lgg t u K).2).1.length + 1 = _
    rw [this]; rfl
theorem slot_ok {c : List (Str × Int)} {p q : Tm} {K : List (Tm × Tm)} : (slot p q K).1.ok c = true := by
  unfold slot
  split
  · exact decide_eq_true (p := (0 : Int) ≤ ((K.idxOf (p, q) : Nat) : Int)) (Int.natCast_nonneg _)
  · exact decide_eq_true (p := (0 : Int) ≤ ((K.length : Nat) : Int)) (Int.natCast_nonneg _)
mutual
theorem lgg_ok {c : List (Str × Int)} : ∀ (p q : Tm) (K : List (Tm × Tm)), p.ok c = true → (lgg p q K).1.ok c = true
  | .var i, q, K, _ => by rw [lgg]; exact slot_ok
  | .app w ts, .var j, K, _ => by rw [lgg]; exact slot_ok
  | .app w ts, .app u us, K, h => by
    simp only [Tm.ok, Bool.and_eq_true, decide_eq_true_eq] at h
    rw [lgg]
    by_cases e : w = u ∧ ts.length = us.length
    · rw [if_pos e]
      simp only [Tm.ok, Bool.and_eq_true, decide_eq_true_eq]
      exact ⟨by rw [lggs_length _ _ _ e.2]; exact h.1, lggs_ok ts us K h.2⟩
    · rw [if_neg e]; exact slot_ok
theorem lggs_ok {c : List (Str × Int)} : ∀ (ts us : List Tm) (K : List (Tm × Tm)), Tm.oks c ts = true → Tm.oks c (lggs ts us K).1 = true
  | [], _, K, _ => by rw [lggs]; rfl
  | _ :: _, [], K, _ => by rw [lggs]; rfl
  | t :: ts, u :: us, K, h => by
    simp only [Tm.oks, Bool.and_eq_true] at h
    rw [lggs]
    simp only [Tm.oks, Bool.and_eq_true]
    exact ⟨lgg_ok t u K h.1, lggs_ok ts us _ h.2⟩
end
theorem join_ok {c : List (Str × Int)} {p q : Tm} (h : p.ok c = true) : (joinT p q).ok c = true ∧ (joinT p q).ht ≤ p.ht ∧ (joinT p q).size ≤ p.size ∧ ∀ i ∈ (joinT p q).occ, 0 ≤ i ∧ i < p.size := by
  obtain ⟨g, h1, _⟩ := tidy_one (lgg p q []).1
  have e : joinT p q = (lgg p q []).1.sub (vr fun i => (g i : Int)) := by unfold joinT; rw [h1]; rfl
  refine ⟨by rw [e]; exact Tm.ok_rn (lgg_ok p q [] h), by rw [e, Tm.ht_rn]; exact lgg_ht p q [], by rw [e, Tm.size_rn]; exact lgg_size p q [], fun i hi => ?_⟩
  have h2 := tidy_num [(lgg p q []).1]
  have h3 : i ∈ dedup (Tm.occs (tidy [(lgg p q []).1])) := by
    rw [dedup_mem, tidy_hd]
    show i ∈ Tm.occs [joinT p q]
    simpa [Tm.occs] using hi
  rw [h2, upto_mem] at h3
  have h4 := dedup_len (Tm.occs [(lgg p q []).1])
  have h5 := Tm.occs_len [(lgg p q []).1]
  have h6 := lgg_size p q []
  simp only [Tm.sizes] at h5
  omega
/-- what the law's two terms are -/
def pqOk (c : List (Str × Int)) (t : Tm) : Prop := t.ok c = true ∧ t.ht ≤ 10 ∧ ∀ i ∈ t.occ, 0 ≤ i ∧ i ≤ 3
theorem pqOk.size {c : List (Str × Int)} (hc : ConsOk c) {t : Tm} (h : pqOk c t) : t.size ≤ 1023 := by
  have h1 := Tm.size_le (fun z hz => (hc.ar z hz).2) h.1
  have h2 : 2 ^ t.ht ≤ 2 ^ 10 := Nat.pow_le_pow_right (by decide) h.2.1
  omega
theorem pqOk.dv {c : List (Str × Int)} (hc : ConsOk c) {t : Tm} (h : pqOk c t) : DV t.v 2000 10 200000 := by
  have := h.size hc
  exact (DV_tm hc (b := 2000) (by decide) h.1 fun i hi => by have := h.2.2 i hi; omega).w (Nat.le_refl _) h.2.1 (by omega)
theorem pqOk.wok {c : List (Str × Int)} (hc : ConsOk c) {t : Tm} (h : pqOk c t) : t.wok = true := wok_of hc h.1 fun i hi => by have := h.2.2 i hi; omega
theorem v_pop {u : List Vl} {y : Vl} : vMth .pop (.lst (u ++ [y])) [] = some (y, .lst u) := by
  show ob (u ++ [y])[(u ++ [y]).length - 1]? _ = _
  rw [List.length_append, List.length_singleton, Nat.add_sub_cancel, List.getElem?_append_right (Nat.le_refl _), Nat.sub_self, List.dropLast_concat]; rfl
theorem v_zip {u v : List Vl} (h : u.length = v.length ∧ (u.zip v).length ≤ sizeLine) : vZip (.tup u) (.tup v) = some (.lst ((u.zip v).map fun p => .tup [p.1, p.2])) := gd_pos h
theorem zip_pair : ∀ {ts us : List Tm}, (((Tm.vs ts).zip (Tm.vs us)).map fun p => Vl.tup [p.1, p.2]) = (ts.zip us).map pairV
  | [], _ => rfl
  | _ :: _, [] => by rw [Tm.vs, List.zip_nil_right]; rfl
  | t :: ts, u :: us => by rw [Tm.vs, Tm.vs, List.zip_cons_cons, List.zip_cons_cons, List.map_cons, List.map_cons, zip_pair (ts := ts)]; rfl
theorem emp_app {α : Type} {u : List α} {y : α} : (!(u ++ [y]).isEmpty) = true := by cases u <;> rfl
def rsV : Option (List (Int × Tm)) → Vl
  | none => .non
  | some G => .dic (dK Tm.v G)
theorem sizes_app {l m : List Tm} : Tm.sizes (l ++ m) = Tm.sizes l + Tm.sizes m := by
  induction l with
  | nil => rw [List.nil_append]; show _ = 0 + _; omega
  | cons t l ih => rw [List.cons_append, Tm.sizes, ih, Tm.sizes]; omega
set_option maxHeartbeats 1000000 in
theorem v_match {b N M : Nat} (hN : N ≤ 64) {k : Nat} {g t : Tm} (hk : 1 ≤ k) (dt : DV t.v b N M) (hs : g.size ≤ 10000) : ∃ r, MatchOk g t r ∧ pcall PT k "match" [g.v, t.v] = some (rsV r, [some g.v, some t.v]) := by
  obtain ⟨k, rfl, hk⟩ := lvl (k := 0) hk
  suffices h : ∃ z, pcall PT (k + 1) "match" [g.v, t.v] = some z ∧ ∃ r, MatchOk g t r ∧ z = (rsV r, [some g.v, some t.v]) by
    obtain ⟨z, e, r, h1, h2⟩ := h
    exact ⟨r, h1, by rw [e, h2]⟩
  show Ev _ _
  have hz : sizeLine = 16777216 := by decide
  rw [pcall_eq F_match K_match R_match rfl]
  walk_at "g"
  refine ev_whl (σ := (List (Int × Tm) × List (Tm × Tm)) × Option Vl × Option Vl) (fun s => [some g.v, some t.v, some (.dic (dK Tm.v s.1.1)), some (.lst (s.1.2.map pairV)), s.2.1, s.2.2]) (fun s => MInv g t s.1.1 s.1.2 ∧ (∀ z ∈ s.1.2, DV z.2.v b N M) ∧ (∀ z ∈ s.1.1, DV z.2.v b N M) ∧ s.1.1.length + Tm.sizes (s.1.2.map Prod.fst) ≤ 10000) (fun s => Tm.sizes (s.1.2.map Prod.fst)) (([], [(g, t)]), none, none) rfl ⟨.start, ?_, ?_, ?_⟩ ?_ ?_
  · intro z hz; rw [List.mem_singleton.mp hz]; exact dt
  · intro z hz; cases hz
  · show 0 + (g.size + 0) ≤ _; omega
  · show g.size + 0 < WF; rw [WF_eq]; omega
  rintro ⟨⟨G, W⟩, x4, x5⟩ ⟨inv, dW, dG, hl⟩ K hK
  dsimp only at inv dW dG hl hK ⊢
  walk_at "g"
  rcases List.eq_nil_or_concat W with rfl | ⟨W, ⟨a, u⟩, rfl⟩
  · walk_at "g"
    exact ⟨_, rfl, some G, inv.done, rfl⟩
  have du : DV u.v b N M := dW (a, u) (by simp)
  have dW' : ∀ z ∈ W, DV z.2.v b N M := fun z hz => dW z (by simp [hz])
  simp only [List.concat_eq_append] at inv hl hK ⊢
  rw [List.map_append, sizes_app] at hl hK
  simp only [List.map_cons, List.map_nil, Tm.sizes, Nat.add_zero] at hl hK
  have hw : W.length ≤ Tm.sizes (W.map Prod.fst) := by have := Tm.sizes_len (W.map Prod.fst); rwa [List.length_map] at this
  rw [List.map_append, List.map_singleton, emp_app]
  walk_at "g"
  rw [v_pop]
  walk_at "g"
  cases a with
  | var i =>
    rw [Tm.size] at hl hK
    walk_at "g"
    rw [pd_true (by rfl)]
    walk_at "g"
    rw [pd_true (by rw [dK_len]; omega), getV_dK]
    cases e : G.lookup i with
    | none =>
      walk_at "g"
      rw [vc_ne (vEq_tm du du hN hN), decide_eq_true rfl]
      walk_at "g"
      rw [show some (Vl.dic (putV (dK Tm.v G) (Sum.inl i) u.v)) = some (Vl.dic (dK Tm.v (G ++ [(i, u)]))) by rw [putV_dK (lk_none e)]]
      refine hK ((G ++ [(i, u)], W), some (Tm.var i).v, some u.v) ⟨inv.new (lk_none e), dW', fun z hz => ?_, ?_⟩ ?_
      · rcases List.mem_append.mp hz with hz | hz
        · exact dG z hz
        · rw [List.mem_singleton.mp hz]; exact du
      · show (G ++ [(i, u)]).length + _ ≤ _
        rw [List.length_append, List.length_singleton]; show G.length + 1 + Tm.sizes (W.map Prod.fst) ≤ _; omega
      · show Tm.sizes (W.map Prod.fst) < _; omega
    | some v =>
      walk_at "g"
      rw [vc_ne (vEq_tm (dG _ (look_mem e)) du hN hN)]
      by_cases c : v = u
      · rw [decide_eq_true c]
        walk_at "g"
        refine hK ((G, W), some (Tm.var i).v, some u.v) ⟨inv.old (c ▸ e), dW', dG, ?_⟩ ?_
        · show G.length + Tm.sizes (W.map Prod.fst) ≤ _; omega
        · show Tm.sizes (W.map Prod.fst) < _; omega
      · rw [decide_eq_false c]
        walk_at "g"
        exact ⟨_, rfl, none, inv.clash e c, rfl⟩
  | app w ts =>
    have hsl := Tm.sizes_len ts
    rw [Tm.size] at hl hK
    walk_at "g"
    rw [pd_true (by rfl)]
    cases u with
    | var j =>
      walk_at "g"
      exact ⟨_, rfl, none, inv.vary, rfl⟩
    | app w' us =>
      walk_at "g"
      by_cases hw' : w = w'
      · rw [decide_eq_true hw']
        walk_at "g"
        rw [len_dec]
        by_cases hlen : ts.length = us.length
        · rw [decide_eq_true hlen]
          walk_at "g"
          rw [v_zip ⟨by rw [vs_len, vs_len, hlen], by rw [List.length_zip, vs_len, vs_len]; omega⟩, zip_pair]
          walk_at "g"
          rw [v_ext (by rw [List.length_map, List.length_map, List.length_zip]; omega), ← List.map_append]
          walk_at "g"
          refine hK ((G, W ++ ts.zip us), some (Tm.app w ts).v, some (Tm.app w' us).v) ⟨(hw' ▸ inv).deep hlen, ?_, dG, ?_⟩ ?_
          · intro z hz
            rcases List.mem_append.mp hz with hz | hz
            · exact dW' z hz
            · exact DV_sub w' us du _ (List.of_mem_zip hz).2
          · show G.length + Tm.sizes ((W ++ ts.zip us).map Prod.fst) ≤ _
            rw [List.map_append, sizes_app, zip_fst hlen]; omega
          · show Tm.sizes ((W ++ ts.zip us).map Prod.fst) < _
            rw [List.map_append, sizes_app, zip_fst hlen]; omega
        · rw [decide_eq_false hlen]
          walk_at "g"
          exact ⟨_, rfl, none, inv.unlike (.inr hlen), rfl⟩
      · rw [decide_eq_false hw']
        walk_at "g"
        exact ⟨_, rfl, none, inv.unlike (.inl hw'), rfl⟩

/-- what the law's terms are -/
def oOk (c : List (Str × Int)) (t : Tm) : Prop := t.ok c = true ∧ t.ht ≤ 10 ∧ ∀ i ∈ t.occ, 0 ≤ i ∧ i ≤ 9
theorem oOk.size {c : List (Str × Int)} (hc : ConsOk c) {t : Tm} (h : oOk c t) : t.size ≤ 1023 := by
  have h1 := Tm.size_le (fun z hz => (hc.ar z hz).2) h.1
  have h2 : 2 ^ t.ht ≤ 2 ^ 10 := Nat.pow_le_pow_right (by decide) h.2.1
  omega
theorem oOk.dv {c : List (Str × Int)} (hc : ConsOk c) {t : Tm} (h : oOk c t) : DV t.v 2000 10 200000 := by
  have := h.size hc
  exact (DV_tm hc (b := 2000) (by decide) h.1 fun i hi => by have := h.2.2 i hi; omega).w (Nat.le_refl _) h.2.1 (by omega)
theorem sb_cases (l : List (Int × Tm)) (i : Int) : (∃ z ∈ l, z.1 = i ∧ sb l i = z.2) ∨ sb l i = .var i := by
  unfold sb
  cases e : l.lookup i with
  | none => exact .inr rfl
  | some u => exact .inl ⟨_, look_mem e, rfl, rfl⟩
theorem oOk.sub {c : List (Str × Int)} {t : Tm} {l : List (Int × Tm)} {m : Nat} (ho : t.ok c = true) (hv : ∀ i ∈ t.occ, 0 ≤ i ∧ i ≤ 9) (hm : t.ht + m ≤ 10) (h1 : 1 ≤ m) (hl : ∀ z ∈ l, z.2.ok c = true ∧ z.2.ht ≤ m ∧ ∀ i ∈ z.2.occ, 0 ≤ i ∧ i ≤ 9) : oOk c (t.sub (sb l)) ∧ (t.sub (sb l)).ht ≤ t.ht + m := by
  have hh : (t.sub (sb l)).ht ≤ t.ht + m := ht_sub fun i hi => by
    rcases sb_cases l i with ⟨z, hz, _, e⟩ | e
    · rw [e]; exact (hl z hz).2.1
    · rw [e, Tm.ht]; exact h1
  refine ⟨⟨ok_sub ho fun i hi => ?_, by omega, fun i hi => ?_⟩, hh⟩
  · rcases sb_cases l i with ⟨z, hz, _, e⟩ | e
    · rw [e]; exact (hl z hz).1
    · rw [e, Tm.ok]; exact decide_eq_true (hv i hi).1
  · rw [Tm.occ_sub] at hi
    obtain ⟨j, hj, hi⟩ := List.mem_flatMap.mp hi
    rcases sb_cases l j with ⟨z, hz, _, e⟩ | e
    · rw [e] at hi; exact (hl z hz).2.2 i hi
    · rw [e, Tm.occ, List.mem_singleton] at hi; rw [hi]; exact hv j hj
theorem intsV_int (ns : List Int) : intsV (ns.map .int) = some ns := by
  induction ns with
  | nil => rfl
  | cons n ns ih => rw [List.map_cons, intsV, ih]; rfl
/-- a loop over a display -/
theorem ev_loopT {C : Cal} {P : Pr} {fr : Bool} {es : List E} {t : Tg} {b : List Sm} {κ : List Kd} {env env' : Env} {N : Nd} {Q : Rt → Prop} {L : List Vl} (ht : tgOk κ t = true) (h : ∀ K, pes C P es κ env K = K L env')
    (q : Ev (pfor (fun x env N => ptg t x env fun env => pk C P fr b κ env N) L env' N) Q) : Ev (ps C P fr (.loop t .val [.tup es] b) κ env N) Q := by
  have e : ps C P fr (.loop t .val [.tup es] b) κ env N = pes C P es κ env fun vs env => cnd (tgOk κ t) (pfor (fun x env N => ptg t x env fun env => pk C P fr b κ env N) vs env N) none := rfl
  rw [e, h, ht]
  exact q
/-- every variable greater by n -/
def up (n : Int) (t : Tm) : Tm := t.sub (vr fun i => i + n)
theorem v_shifted {b : Int} : ∀ (n : Nat) {k : Nat} {t : Tm}, n ≤ k → t.ht ≤ n → t.size < sizeLine → pcall PT k "shifted" [t.v, .int b] = some ((up b t).v, [some t.v, some (.int b)]) := by
  intro n
  induction n with
  | zero => intro k t _ h; cases t <;> simp [Tm.ht] at h
  | succ n ih =>
  intro k t hk ht hs
  obtain ⟨k, rfl, hk⟩ := lvl hk
  refine Ev.eq ?_
  rw [pcall_eq F_shifted K_shifted R_shifted rfl]
  cases t with
  | var i =>
    walk_at "g"
    exact ⟨_, rfl, rfl⟩
  | app w ts =>
    simp only [Tm.ht] at ht
    simp only [Tm.size] at hs
    walk_at "g"
    have hl := Tm.sizes_len ts
    refine ev_mapOf (xs := ts) Tm.v (fun t => (up b t).v) (Tm.vs_map ts) (by omega) ?_ ?_
    · intro t tm K
      have := Tm.hts_le.mp (show Tm.hts ts ≤ n by omega) t tm
      walk_at "g"
      rw [ih (by omega) this (by have := Tm.size_mem tm; omega)]
      walk_at "g"
      rfl
    · walk_at "g"
      rw [v_addt (by rw [List.length_map]; show 1 + _ ≤ _; omega)]
      walk_at "g"
      refine ⟨_, rfl, ?_⟩
      rw [up, Tm.sub, Tm.v, Tm.vs_map, Tm.subs_map, List.map_map]; rfl
theorem v_moved {b : Int} : ∀ (n : Nat) {k : Nat} {t : Tm}, n + 1 ≤ k → t.ht ≤ n → t.size < sizeLine → pcall PT k "_law_moved" [t.v, .int b] = some ((up b t).v, [some t.v, some (.int b)]) := by
  intro n
  induction n with
  | zero => intro k t _ h; cases t <;> simp [Tm.ht] at h
  | succ n ih =>
  intro k t hk ht hs
  obtain ⟨k, rfl, hk⟩ := lvl (k := n + 1) hk
  refine Ev.eq ?_
  rw [pcall_eq F__law_moved K__law_moved R__law_moved rfl]
  cases t with
  | var i =>
    walk_at "g"
    rw [v_is_integer (by omega)]
    walk_at "g"
    exact ⟨_, rfl, rfl⟩
  | app w ts =>
    simp only [Tm.ht] at ht
    simp only [Tm.size] at hs
    walk_at "g"
    rw [v_is_integer (by omega)]
    walk_at "g"
    have hl := Tm.sizes_len ts
    refine ev_mapOf (xs := ts) Tm.v (fun t => (up b t).v) (Tm.vs_map ts) (by omega) ?_ ?_
    · intro t tm K
      have := Tm.hts_le.mp (show Tm.hts ts ≤ n by omega) t tm
      walk_at "g"
      rw [ih (by omega) this (by have := Tm.size_mem tm; omega)]
      walk_at "g"
      rfl
    · walk_at "g"
      rw [v_addt (by rw [List.length_map]; show 1 + _ ≤ _; omega)]
      walk_at "g"
      refine ⟨_, rfl, ?_⟩
      rw [up, Tm.sub, Tm.v, Tm.vs_map, Tm.subs_map, List.map_map]; rfl
structure DOk (c : List (Str × Int)) (l : List (Int × Tm)) : Prop where
  nd : (l.map Prod.fst).Nodup
  el : ∀ z ∈ l, 0 ≤ z.1 ∧ z.1 < 4 ∧ z.2.ok c = true ∧ z.2.ht ≤ 3 ∧ ∀ i ∈ z.2.occ, 0 ≤ i ∧ i ≤ 3
theorem DOk.oOk {c : List (Str × Int)} {l : List (Int × Tm)} (h : DOk c l) {z : Int × Tm} (hz : z ∈ l) : oOk c z.2 := by
  obtain ⟨_, _, a, b, d⟩ := h.el z hz
  exact ⟨a, by omega, fun i hi => by have := d i hi; omega⟩
theorem DOk.subs {c : List (Str × Int)} {l : List (Int × Tm)} (h : DOk c l) {t : Tm} (ho : t.ok c = true) (hh : t.ht ≤ 6) (hv : ∀ i ∈ t.occ, 0 ≤ i ∧ i ≤ 3) : Mp.oOk c (t.sub (sb l)) ∧ (t.sub (sb l)).ht ≤ t.ht + 3 ∧ ∀ i ∈ (t.sub (sb l)).occ, 0 ≤ i ∧ i ≤ 3 := by
  obtain ⟨a, b⟩ := oOk.sub (m := 3) (l := l) ho (fun i hi => by have := hv i hi; omega) (by omega) (by decide) (fun z hz => by
    obtain ⟨_, _, a, b, d⟩ := h.el z hz
    exact ⟨a, b, fun i hi => by have := d i hi; omega⟩)
  refine ⟨a, b, fun i hi => ?_⟩
  rw [Tm.occ_sub] at hi
  obtain ⟨j, hj, hi⟩ := List.mem_flatMap.mp hi
  rcases sb_cases l j with ⟨z, hz, _, e⟩ | e
  · rw [e] at hi; exact (h.el z hz).2.2.2.2 i hi
  · rw [e, Tm.occ, List.mem_singleton] at hi; rw [hi]; exact hv j hj
theorem DOk.len {c : List (Str × Int)} {l : List (Int × Tm)} (h : DOk c l) : l.length ≤ 4 := by
  have := dedup_sub (l := l.map Prod.fst) (n := 4) fun i hi => by
    obtain ⟨z, hz, rfl⟩ := List.mem_map.mp hi
    exact ⟨(h.el z hz).1, (h.el z hz).2.1⟩
  rwa [dedup_self h.nd, List.length_map] at this
theorem lk_mem {α : Type} {G : List (Int × α)} {i : Int} {u : α} (e : G.lookup i = some u) : (i, u) ∈ G := look_mem e
def rkT (r : Int → Nat) : Tm → Nat
  | .var i => r i
  | .app _ _ => 0
theorem v_resolved {B : List (Int × Tm)} {s : Int → Tm} (h : Bnd B s) (hl : B.length < WF) {k : Nat} {t : Tm} (hk : 1 ≤ k) : ∃ r, Rs B s t r ∧ pcall PT k "resolved" [t.v, .dic (dK Tm.v B)] = some (r.v, [some r.v, some (.dic (dK Tm.v B))]) := by
  obtain ⟨k, rfl, hk⟩ := lvl (k := 0) hk
  obtain ⟨rk, r1, r2, r3⟩ := h.rank
  suffices w : ∃ z, pcall PT (k + 1) "resolved" [t.v, .dic (dK Tm.v B)] = some z ∧ ∃ r, Rs B s t r ∧ z = (r.v, [some r.v, some (.dic (dK Tm.v B))]) by
    obtain ⟨z, e, r, h1, h2⟩ := w
    exact ⟨r, h1, by rw [e, h2]⟩
  show Ev _ _
  rw [pcall_eq F_resolved K_resolved R_resolved rfl]
  walk_at "g"
  refine ev_whl (σ := Tm) (fun u => [some u.v, some (.dic (dK Tm.v B))]) (fun u => u.sub s = t.sub s ∧ (u = t ∨ ∃ z ∈ B, u = z.2)) (rkT rk) t rfl ⟨rfl, .inl rfl⟩ (by cases t with | var i => exact Nat.lt_of_le_of_lt (r2 i) hl | app w ts => exact Nat.lt_of_le_of_lt (Nat.zero_le _) hl) ?_
  rintro u ⟨u1, u2⟩ K hK
  cases u with
  | app w ts =>
    walk_at "g"
    exact ⟨_, rfl, .app w ts, ⟨u1, (fun j e => nomatch e), u2⟩, rfl⟩
  | var i =>
    walk_at "g"
    rw [getV_dK]
    cases e : B.lookup i with
    | none =>
      walk_at "g"
      exact ⟨_, rfl, .var i, ⟨u1, (fun j e' => by cases e'; exact lk_none e), u2⟩, rfl⟩
    | some v =>
      walk_at "g"
      rw [show vIx (.dic (dK Tm.v B)) (Tm.var i).v = (B.lookup i).map Tm.v from v_ixd, e]
      walk_at "g"
      have m := lk_mem e
      refine hK v ⟨?_, .inr ⟨_, m, rfl⟩⟩ ?_
      · rw [← u1, Tm.sub]; exact (h.bd _ m).symm
      · cases v with
        | app w ts =>
          exact r3 _ m
        | var j => exact r1 _ m j (by rw [Tm.occ]; exact List.mem_singleton.mpr rfl)
theorem v_any {bs : List Bool} : vB .any [.lst (bs.map .bl)] = some (.bl (bs.any id)) := by
  show ob (blsV _) _ = _
  rw [blsV_map]; rfl
theorem occ_any {x : Int} {ts : List Tm} : decide (x ∈ Tm.occs ts) = (ts.map fun t => decide (x ∈ t.occ)).any id := by
  induction ts with
  | nil => rfl
  | cons t ts ih => rw [Tm.occs, List.map_cons, List.any_cons, ← ih]; simp
theorem v_occurs {B : List (Int × Tm)} {s : Int → Tm} (h : Bnd B s) (hl : B.length < WF) {x : Int} : ∀ (n : Nat) {k : Nat} {t : Tm}, n + 1 ≤ k → (t.sub s).ht ≤ n → (t.sub s).size < sizeLine →
    ∃ r : Tm, pcall PT k "occurs" [.int x, t.v, .dic (dK Tm.v B)] = some (.bl (decide (x ∈ (t.sub s).occ)), [some (.int x), some r.v, some (.dic (dK Tm.v B))]) := by
  intro n
  induction n with
  | zero => intro k t _ h; have := ht_pos (t.sub s); omega
  | succ n ih =>
  intro k t hk ht hs
  obtain ⟨k, rfl, hk⟩ := lvl hk
  obtain ⟨r, hr, er⟩ := v_resolved h hl (k := k) (t := t) (by omega)
  refine ⟨r, Ev.eq ?_⟩
  rw [pcall_eq F_occurs K_occurs R_occurs rfl]
  walk_at "g"
  rw [er]
  rw [← hr.eq] at ht hs ⊢
  cases r with
  | var j =>
    walk_at "g"
    rw [show decide ((Tm.var j).v.toV = (Vl.int x).toV) = decide (j = x) from d_int]
    refine ⟨_, rfl, ?_⟩
    rw [Tm.sub, h.fr j (hr.fr j rfl), Tm.occ, show decide (x ∈ [j]) = decide (j = x) by simp [eq_comm]]; rfl
  | app w ts =>
    rw [Tm.sub, Tm.ht] at ht
    rw [Tm.sub, Tm.size] at hs
    have hl2 : ts.length ≤ Tm.sizes (Tm.subs s ts) := by
      have := Tm.sizes_len (Tm.subs s ts)
      rwa [show (Tm.subs s ts).length = ts.length by rw [Tm.subs_map, List.length_map]] at this
    walk_at "g"
    refine ev_mapOf (xs := ts) Tm.v (fun t => .bl (decide (x ∈ (t.sub s).occ))) (Tm.vs_map ts) (by omega) ?_ ?_
    · intro t tm K
      have m : t.sub s ∈ Tm.subs s ts := by rw [Tm.subs_map]; exact List.mem_map_of_mem tm
      have := Tm.hts_le.mp (show Tm.hts (Tm.subs s ts) ≤ n by omega) _ m
      have := Tm.size_mem m
      obtain ⟨r', e'⟩ := ih (k := k) (t := t) (by omega) (by omega) (by omega)
      walk_at "g"
      rw [e']
      walk_at "g"
      rfl
    · rw [show (ts.map fun t => Vl.bl (decide (x ∈ (t.sub s).occ))) = (ts.map fun t => decide (x ∈ (t.sub s).occ)).map .bl by rw [List.map_map]; rfl]
      walk_at "g"
      rw [v_any]
      walk_at "g"
      refine ⟨_, rfl, ?_⟩
      rw [Tm.sub, Tm.occ, occ_any, Tm.subs_map, List.map_map]; rfl
theorem v_settled {B : List (Int × Tm)} {s : Int → Tm} (h : Bnd B s) (hl : B.length < WF) : ∀ (n : Nat) {k : Nat} {t : Tm}, n + 1 ≤ k → (t.sub s).ht ≤ n → (t.sub s).size < sizeLine →
    ∃ r : Tm, pcall PT k "settled" [t.v, .dic (dK Tm.v B)] = some ((t.sub s).v, [some r.v, some (.dic (dK Tm.v B))]) := by
  intro n
  induction n with
  | zero => intro k t _ h; have := ht_pos (t.sub s); omega
  | succ n ih =>
  intro k t hk ht hs
  obtain ⟨k, rfl, hk⟩ := lvl hk
  obtain ⟨r, hr, er⟩ := v_resolved h hl (k := k) (t := t) (by omega)
  refine ⟨r, Ev.eq ?_⟩
  rw [pcall_eq F_settled K_settled R_settled rfl]
  walk_at "g"
  rw [er]
  rw [← hr.eq] at ht hs ⊢
  cases r with
  | var j =>
    walk_at "g"
    refine ⟨_, rfl, ?_⟩
    rw [Tm.sub, h.fr j (hr.fr j rfl)]; rfl
  | app w ts =>
    rw [Tm.sub, Tm.ht] at ht
    rw [Tm.sub, Tm.size] at hs
    have hl2 : ts.length ≤ Tm.sizes (Tm.subs s ts) := by
      have := Tm.sizes_len (Tm.subs s ts)
      rwa [show (Tm.subs s ts).length = ts.length by rw [Tm.subs_map, List.length_map]] at this
    walk_at "g"
    refine ev_mapOf (xs := ts) Tm.v (fun t => (t.sub s).v) (Tm.vs_map ts) (by omega) ?_ ?_
    · intro t tm K
      have m : t.sub s ∈ Tm.subs s ts := by rw [Tm.subs_map]; exact List.mem_map_of_mem tm
      have := Tm.hts_le.mp (show Tm.hts (Tm.subs s ts) ≤ n by omega) _ m
      have := Tm.size_mem m
      obtain ⟨r', e'⟩ := ih (k := k) (t := t) (by omega) (by omega) (by omega)
      walk_at "g"
      rw [e']
      walk_at "g"
      rfl
    · walk_at "g"
      rw [v_addt (by rw [List.length_map]; show 1 + _ ≤ _; omega)]
      walk_at "g"
      refine ⟨_, rfl, ?_⟩
      rw [Tm.sub, Tm.v, Tm.vs_map, Tm.subs_map, List.map_map]; rfl

def uP (c : List (Str × Int)) (A : List Int) (n : Nat) (t : Tm) : Prop := t.ok c = true ∧ t.ht ≤ n + 1 ∧ ∀ i ∈ t.occ, i ∈ A
/-- equations of small terms -/
structure UE (c : List (Str × Int)) (A : List Int) (n m : Nat) (E : List (Tm × Tm)) : Prop where
  hc : ConsOk c
  v0 : ∀ i ∈ A, 0 ≤ i ∧ i ≤ 1000
  vl : A.length ≤ m
  pr : ∀ z ∈ E, uP c A n z.1 ∧ uP c A n z.2
  lim : (m + 1) * (E.length * 2 ^ (n + 2 + m * n)) < WF
  fit : 2 ^ (n + 1 + m * n) < sizeLine
  mw : m < WF
  nb : n < 60
section
variable {c : List (Str × Int)} {A : List Int} {n m : Nat} {E W : List (Tm × Tm)} {B : List (Int × Tm)} {s : Int → Tm}
theorem uP.down {w : Str} {ts : List Tm} (h : uP c A n (.app w ts)) : ∀ t ∈ ts, uP c A n t := fun t ht => by
  obtain ⟨a, b, d⟩ := h
  simp only [Tm.ok, Bool.and_eq_true] at a
  rw [Tm.oks_all, List.all_eq_true] at a
  rw [Tm.ht] at b
  refine ⟨a.2 t ht, by have := Tm.hts_le.mp (Nat.le_refl (Tm.hts ts)) t ht; omega, fun i hi => d i ?_⟩
  rw [Tm.occ, Tm.occs_flat]
  exact List.mem_flatMap.mpr ⟨t, ht, hi⟩
theorem UE.at (U : UE c A n m E) (h : UInv E B s W) : (∀ z ∈ W, uP c A n z.1 ∧ uP c A n z.2) ∧ ∀ z ∈ B, uP c A n (.var z.1) ∧ uP c A n z.2 := h.pt _ (fun _ _ => uP.down) U.pr
theorem nd_le : ∀ {l : List Int} {A : List Int}, l.Nodup → (∀ x ∈ l, x ∈ A) → l.length ≤ A.length
  | [], _, _, _ => Nat.zero_le _
  | a :: l, A, nd, h => by
    have ma := h a (List.mem_cons_self ..)
    have := nd_le (l := l) (A := A.erase a) (List.nodup_cons.mp nd).2 fun x hx => (List.mem_erase_of_ne (fun (e : x = a) => (List.nodup_cons.mp nd).1 (e ▸ hx))).mpr (h x (List.mem_cons_of_mem _ hx))
    rw [List.length_erase_of_mem ma] at this
    have := List.length_pos_of_mem ma
    rw [List.length_cons]; omega
theorem UE.len (U : UE c A n m E) (h : UInv E B s W) : B.length ≤ m := by
  have := nd_le h.b.nd (A := A) fun i hi => by
    obtain ⟨z, hz, rfl⟩ := List.mem_map.mp hi
    exact ((U.at h).2 z hz).1.2.2 z.1 (by rw [Tm.occ]; exact List.mem_singleton.mpr rfl)
  rw [List.length_map] at this
  exact Nat.le_trans this U.vl
theorem UE.ht (U : UE c A n m E) (h : UInv E B s W) {t : Tm} (ht : uP c A n t) : (t.sub s).ht ≤ n + 1 + m * n := by
  have a := ht_subT (m := B.length * n) (f := s) (t := t) fun i _ => h.b.ht (fun z hz => ((U.at h).2 z hz).2.2.1) i
  have b := Nat.mul_le_mul_right n (U.len h)
  have := ht.2.1
  omega
theorem UE.okS (U : UE c A n m E) (h : UInv E B s W) {i : Int} (hi : 0 ≤ i) : (s i).ok c = true := by
  refine h.b.ind (Q := fun i => 0 ≤ i → (s i).ok c = true) (fun i hi h0 => ?_) (fun z hz ih h0 => ?_) i hi
  · rw [h.b.fr i hi, Tm.ok]; exact decide_eq_true h0
  · rw [h.b.bd z hz]
    have p := ((U.at h).2 z hz).2
    exact ok_sub p.1 fun j hj => ih j hj (U.v0 j (p.2.2 j hj)).1
theorem UE.ok (U : UE c A n m E) (h : UInv E B s W) {t : Tm} (ht : uP c A n t) : (t.sub s).ok c = true := ok_sub ht.1 fun i hi => U.okS h (U.v0 i (ht.2.2 i hi)).1
theorem UE.size (U : UE c A n m E) (h : UInv E B s W) {t : Tm} (ht : uP c A n t) : (t.sub s).size < 2 ^ (n + 1 + m * n) := by
  have a := Tm.size_le (fun z hz => (U.hc.ar z hz).2) (U.ok h ht)
  have b := Nat.pow_le_pow_right (show 0 < 2 by decide) (U.ht h ht)
  omega
theorem UE.dv (U : UE c A n m E) {t : Tm} (h : uP c A n t) : ∃ M, DV t.v 1000 t.ht M ∧ t.ht ≤ 64 := ⟨_, DV_tm U.hc (by decide) h.1 fun i hi => by have := U.v0 i (h.2.2 i hi); omega, by have := h.2.1; have := U.nb; omega⟩
theorem szs_le {f : Int → Tm} {S : Nat} : ∀ {V : List (Tm × Tm)}, (∀ z ∈ V, (z.1.sub f).size ≤ S ∧ (z.2.sub f).size ≤ S) → szs f V ≤ V.length * (2 * S)
  | [], _ => Nat.zero_le _
  | z :: V, h => by
    have a := szs_le (f := f) (S := S) (V := V) fun y hy => h y (List.mem_cons_of_mem _ hy)
    have b := h z (List.mem_cons_self ..)
    rw [szs, List.length_cons, Nat.add_mul]; omega
theorem UE.szs (U : UE c A n m E) (h : UInv E B s W) : Mp.szs s W ≤ E.length * 2 ^ (n + 2 + m * n) := by
  have a := h.sz s h.b.self
  have b := szs_le (f := s) (S := 2 ^ (n + 1 + m * n)) (V := E) fun z hz => by
    have p := U.pr z hz
    have := U.size h p.1
    have := U.size h p.2
    omega
  rw [show 2 * 2 ^ (n + 1 + m * n) = 2 ^ (n + 2 + m * n) by rw [← Nat.pow_succ']; congr 1; omega] at b
  omega
/-- the measure of a while -/
def uM (m M : Nat) (B : List (Int × Tm)) (s : Int → Tm) (W : List (Tm × Tm)) : Nat := (m - B.length) * M + Mp.szs s W
theorem UE.m0 (U : UE c A n m E) (h : UInv E B s W) : uM m (E.length * 2 ^ (n + 2 + m * n)) B s W < WF := by
  have a := U.szs h
  have b := U.lim
  unfold uM
  have := Nat.mul_le_mul_right (E.length * 2 ^ (n + 2 + m * n)) (show m - B.length ≤ m by omega)
  rw [Nat.add_mul] at b
  omega
theorem UE.mB {V : List (Tm × Tm)} {x : Int} {u : Tm} {s' : Int → Tm} (U : UE c A n m E) (h : UInv E (B ++ [(x, u)]) s' W) (hv : 0 < Mp.szs s V) : uM m (E.length * 2 ^ (n + 2 + m * n)) (B ++ [(x, u)]) s' W < uM m (E.length * 2 ^ (n + 2 + m * n)) B s V := by
  have a := U.szs h
  have b := U.len h
  rw [List.length_append, List.length_singleton] at b
  unfold uM
  rw [List.length_append, List.length_singleton]
  have : (m - B.length) * (E.length * 2 ^ (n + 2 + m * n)) = (m - (B.length + 1)) * (E.length * 2 ^ (n + 2 + m * n)) + E.length * 2 ^ (n + 2 + m * n) := by
    rw [← Nat.succ_mul]; congr 1; omega
  omega
end
theorem nxt_le {s : Int → Tm} {x : Int} {u : Tm} (h : ∀ i j, s i = .var j → j ≤ i) (hu : ∀ y, u.sub s = .var y → y < x) (i j : Int) (e : nxt s x u i = .var j) : j ≤ i := by
  unfold nxt at e
  cases c : s i with
  | app w ts => rw [c, Tm.sub] at e; cases e
  | var k =>
    rw [c, Tm.sub] at e
    have := h i k c
    unfold one1 at e
    split at e
    · rename_i hk
      have := hu j e
      omega
    · cases e; exact this
def usV : Option (List (Int × Tm) × (Int → Tm)) → Vl
  | none => .non
  | some (B, s) => .dic (dK Tm.v (B.map fun z => (z.1, s z.1)))

theorem usz {s : Int → Tm} {W : List (Tm × Tm)} {a b : Tm} : Mp.szs s W < Mp.szs s (W ++ [(a, b)]) := by
  rw [szs_app, szs_one]
  have := (a.sub s).size_pos
  omega
theorem usM {m M : Nat} {B : List (Int × Tm)} {s : Int → Tm} {W : List (Tm × Tm)} {a b : Tm} : uM m M B s W < uM m M B s (W ++ [(a, b)]) := Nat.add_lt_add_left usz _
theorem uP.up {c : List (Str × Int)} {A : List Int} {n : Nat} {b : Int} (hb : ∀ i ∈ A, 0 ≤ i + b) {t : Tm} (h : uP c A n t) : uP c (A.map fun i => i + b) n (up b t) := by
  refine ⟨ok_sub h.1 fun i hi => ?_, by unfold Mp.up; rw [Tm.ht_rn]; exact h.2.1, fun i hi => ?_⟩
  · have := hb i (h.2.2 i hi)
    show decide (0 ≤ i + b) = true
    exact decide_eq_true (by omega)
  · unfold Mp.up at hi
    rw [Tm.occ_sub] at hi
    obtain ⟨j, hj, hi⟩ := List.mem_flatMap.mp hi
    have hi : i ∈ [j + b] := by simpa [vr, Tm.occ] using hi
    rw [List.mem_singleton] at hi
    exact List.mem_map.mpr ⟨j, h.2.2 j hj, hi.symm⟩
theorem uP.sb {c : List (Str × Int)} {t : Tm} {G : List (Int × Tm)} (h : t.ok c = true) (ht : t.ht ≤ 3) (hv : ∀ i ∈ t.occ, 0 ≤ i ∧ i < 3) (hG : ∀ z ∈ G, z.2.ok c = true ∧ z.2.ht ≤ 2 ∧ ∀ i ∈ z.2.occ, 0 ≤ i ∧ i < 3) : uP c [0, 1, 2] 3 (t.sub (sb G)) := by
  have key : ∀ i ∈ t.occ, (Mp.sb G i).ok c = true ∧ (Mp.sb G i).ht ≤ 2 ∧ ∀ j ∈ (Mp.sb G i).occ, 0 ≤ j ∧ j < 3 := fun i hi => by
    rcases sb_cases G i with ⟨z, hz, _, e⟩ | e
    · rw [e]; exact hG z hz
    · rw [e]
      have := hv i hi
      exact ⟨by rw [Tm.ok]; exact decide_eq_true this.1, by rw [Tm.ht]; omega, fun j hj => by rw [Tm.occ, List.mem_singleton] at hj; omega⟩
  refine ⟨ok_sub h fun i hi => (key i hi).1, ?_, fun i hi => ?_⟩
  · have := ht_subT (m := 1) (f := Mp.sb G) (t := t) fun i hi => (key i hi).2.1
    omega
  · rw [Tm.occ_sub] at hi
    obtain ⟨j, hj, hi⟩ := List.mem_flatMap.mp hi
    have := (key j hj).2.2 i hi
    simp; omega
section
variable {c : List (Str × Int)} {A : List Int} {n m : Nat} {E W : List (Tm × Tm)} {B : List (Int × Tm)} {s : Int → Tm}
theorem UE.occS (U : UE c A n m E) (h : UInv E B s W) {i : Int} (hi : i ∈ A) : ∀ j ∈ (s i).occ, j ∈ A := by
  refine h.b.ind (Q := fun i => i ∈ A → ∀ j ∈ (s i).occ, j ∈ A) (fun i hi h0 j hj => ?_) (fun z hz ih h0 j hj => ?_) i hi
  · rw [h.b.fr i hi, Tm.occ, List.mem_singleton] at hj
    rw [hj]; exact h0
  · rw [h.b.bd z hz, Tm.occ_sub] at hj
    obtain ⟨l, hl, hj⟩ := List.mem_flatMap.mp hj
    exact ih l hl (((U.at h).2 z hz).2.2.2 l hl) j hj
theorem uP.v {i : Int} (h : uP c A n (.var i)) : i ∈ A := h.2.2 i (by rw [Tm.occ]; exact List.mem_singleton.mpr rfl)
theorem UE.var (U : UE c A n m E) {i : Int} (h : i ∈ A) : uP c A n (.var i) := ⟨by rw [Tm.ok]; exact decide_eq_true ((U.v0 i h).1), by rw [Tm.ht]; omega, fun j hj => by rw [Tm.occ, List.mem_singleton] at hj; rw [hj]; exact h⟩
/-- the unifier as a dict -/
def uD (B : List (Int × Tm)) (s : Int → Tm) : List (Int × Tm) := B.map fun z => (z.1, s z.1)
theorem uD_keys : (uD B s).map Prod.fst = B.map Prod.fst := by unfold uD; rw [List.map_map]; rfl
theorem Bnd.uD (h : Bnd B s) (i : Int) : sb (Mp.uD B s) i = s i := by
  by_cases k : i ∈ B.map Prod.fst
  · obtain ⟨z, hz, rfl⟩ := List.mem_map.mp k
    exact sb_at (l := Mp.uD B s) (by rw [uD_keys]; exact h.nd) (z := (z.1, s z.1)) (List.mem_map.mpr ⟨z, hz, rfl⟩)
  · rw [sb_no (by rw [uD_keys]; exact k), h.fr i k]
theorem Bnd.uDt (h : Bnd B s) (t : Tm) : t.sub (sb (Mp.uD B s)) = t.sub s := Tm.sub_congr fun i _ => h.uD i
end
mutual
theorem ht_size : ∀ t : Tm, t.ht ≤ t.size
  | .var _ => Nat.le_refl _
  | .app w ts => by have := hts_size ts; rw [Tm.ht, Tm.size]; omega
theorem hts_size : ∀ ts : List Tm, Tm.hts ts ≤ Tm.sizes ts
  | [] => Nat.le_refl _
  | t :: ts => by have := ht_size t; have := hts_size ts; rw [Tm.hts, Tm.sizes]; omega
end
section
variable {c : List (Str × Int)} {A : List Int} {n m : Nat} {E W : List (Tm × Tm)} {B : List (Int × Tm)} {s : Int → Tm}
end
/-- the least number above some -/
def freeN (ns : List Int) : Int := match maxI ns with
  | some m => 1 + m
  | none => 0
theorem foldl_maxI : ∀ (ns : List Int) (n : Int), (ns.foldl max n ∈ n :: ns) ∧ n ≤ ns.foldl max n
  | [], n => ⟨List.mem_cons_self .., Int.le_refl _⟩
  | k :: ns, n => by
    obtain ⟨a, b⟩ := foldl_maxI ns (max n k)
    rw [List.foldl_cons]
    refine ⟨?_, by omega⟩
    rcases List.mem_cons.mp a with e | m
    · rw [e]
      by_cases c : n ≤ k
      · rw [show max n k = k by omega]; exact List.mem_cons_of_mem _ (List.mem_cons_self ..)
      · rw [show max n k = n by omega]; exact List.mem_cons_self ..
    · exact List.mem_cons_of_mem _ (List.mem_cons_of_mem _ m)
theorem freeN_le {ns : List Int} {b : Int} (hb : 0 ≤ b) (h : ∀ i ∈ ns, 0 ≤ i ∧ i < b) : 0 ≤ freeN ns ∧ freeN ns ≤ b := by
  unfold freeN
  cases ns with
  | nil => exact ⟨Int.le_refl _, hb⟩
  | cons n r =>
    have := h _ (foldl_maxI r n).1
    show 0 ≤ 1 + r.foldl max n ∧ 1 + r.foldl max n ≤ b
    omega
/-- what a maker of a right signature is -/
theorem SgOk.mkO {s : Sg} (ok : SgOk s) {m : Mk} (hm : m ∈ s.ms) : m.t.ok s.c = true ∧ m.t.ht ≤ 2 ∧ m.t.size ≤ 3 ∧ (∀ i ∈ m.t.occ, 0 ≤ i ∧ i ≤ 3) ∧ m.args.length ≤ 3 ∧ ∀ a ∈ m.args, a.1 ∈ s.fs ∧ a.2.ok s.c = true ∧ a.2.size ≤ 6 ∧ ∀ i ∈ a.2.occ, 0 ≤ i ∧ i ≤ 3 := by
  have h := ok.mks m hm
  simp only [mkB, Bool.and_eq_true, decide_eq_true_eq, List.all_eq_true] at h
  obtain ⟨⟨⟨⟨⟨⟨⟨⟨h1, h2⟩, h3⟩, h4⟩, h5⟩, h6⟩, h7⟩, h8⟩, h9⟩ := h
  have hv : ∀ i ∈ Tm.occs m.ts, 0 ≤ i ∧ i ≤ 3 := fun i hi => by
    have := dedup_mem.mpr hi
    rw [h6] at this
    have := upto_mem.mp this
    omega
  refine ⟨h2, ?_, h4, fun i hi => hv i ?_, h5, fun a ha => ⟨(h3 a ha).1.1, (h3 a ha).1.2, (h3 a ha).2, fun i hi => hv i ?_⟩⟩
  · cases e : m.t with
    | var i => rw [Tm.ht]; omega
    | app w ts =>
      rw [e, Tm.flatB, List.all_eq_true] at h8
      rw [Tm.ht]
      have : Tm.hts ts ≤ 1 := Tm.hts_le.mpr fun t ht => by
        have := h8 t ht
        cases t with
        | var i => rw [Tm.ht]; omega
        | app _ _ => cases this
      omega
  · unfold Mk.ts
    rw [Tm.occs]; exact List.mem_append_left _ hi
  · unfold Mk.ts
    rw [Tm.occs, Tm.occs_flat]
    exact List.mem_append_right _ (List.mem_flatMap.mpr ⟨_, List.mem_map_of_mem ha, hi⟩)

def upG (b : Int) (g : List (Str × Tm)) : List (Str × Tm) := g.map fun a => (a.1, up b a.2)
/-- a goal (f, t) :: g and a maker of f -/
structure AfOk (s : Sg) (m : Mk) (g : List (Str × Tm)) : Prop where
  ok : SgOk s
  hm : m ∈ s.ms
  hg : glOk2 s g
  g3 : g.length ≤ 3
/-- where the maker's variables begin -/
def afS (g : List (Str × Tm)) : Int := freeN (dedup (Tm.occs (g.map (·.2))))
/-- what is left -/
def afL (m : Mk) (g : List (Str × Tm)) : List (Str × Tm) := upG (afS g) m.args ++ g.tail
def afT (m : Mk) (g : List (Str × Tm)) : List Tm := (afL m g).map (·.2)
section
variable {s : Sg} {m : Mk} {g : List (Str × Tm)} {x : Str × Tm}
theorem AfOk.st (h : AfOk s m g) : 0 ≤ afS g ∧ afS g ≤ 10 := freeN_le (by decide) fun i hi => by
  have := dedup_mem.mp hi
  rw [Tm.occs_flat] at this
  obtain ⟨t, ht, hi⟩ := List.mem_flatMap.mp this
  obtain ⟨a, ha, rfl⟩ := List.mem_map.mp ht
  have := (h.hg a ha).2.2.2 i hi
  omega
theorem up_ok {c : List (Str × Int)} {b : Int} (hb : 0 ≤ b) {t : Tm} (h : t.ok c = true) (hv : ∀ i ∈ t.occ, 0 ≤ i) : (up b t).ok c = true := ok_sub h fun i hi => by
  have := hv i hi
  show decide (0 ≤ i + b) = true
  exact decide_eq_true (by omega)
theorem up_occ {b : Int} {t : Tm} {i : Int} (h : i ∈ (up b t).occ) : ∃ j ∈ t.occ, i = j + b := by
  unfold up at h
  rw [Tm.occ_sub] at h
  obtain ⟨j, hj, hi⟩ := List.mem_flatMap.mp h
  have hi : i ∈ [j + b] := by simpa [vr, Tm.occ] using hi
  exact ⟨j, hj, List.mem_singleton.mp hi⟩
theorem up_ht {b : Int} {t : Tm} : (up b t).ht = t.ht := by unfold up; rw [Tm.ht_rn]
theorem up_size {b : Int} {t : Tm} : (up b t).size = t.size := by unfold up; rw [Tm.size_rn]
theorem AfOk.ts (h : AfOk s m (x :: g)) : ∀ t ∈ afT m (x :: g), t.ok s.c = true ∧ (∀ i ∈ t.occ, 0 ≤ i) ∧ t.ht ≤ 6 ∧ t.size ≤ 7 := fun t ht => by
  obtain ⟨a, ha, rfl⟩ := List.mem_map.mp ht
  obtain ⟨s0, s1⟩ := h.st
  have hc := h.ok.cons
  obtain ⟨_, _, _, _, _, m6⟩ := h.ok.mkO h.hm
  rcases List.mem_append.mp ha with ha | ha
  · obtain ⟨b, hb, rfl⟩ := List.mem_map.mp ha
    obtain ⟨_, b2, b3, b4⟩ := m6 b hb
    have := ht_size b.2
    refine ⟨up_ok s0 b2 fun i hi => (b4 i hi).1, fun i hi => ?_, by rw [up_ht]; omega, by rw [up_size]; omega⟩
    obtain ⟨j, hj, rfl⟩ := up_occ hi
    have := b4 j hj
    omega
  · obtain ⟨_, x2, x3, x4⟩ := h.hg a (List.mem_cons_of_mem _ ha)
    have a1 := Tm.size_le (fun z hz => (hc.ar z hz).2) x2
    have p1 : 2 ^ a.2.ht ≤ 2 ^ 3 := Nat.pow_le_pow_right (by decide) x3
    exact ⟨x2, fun i hi => (x4 i hi).1, by omega, by omega⟩
theorem AfOk.len (h : AfOk s m (x :: g)) : (afL m (x :: g)).length ≤ 5 := by
  obtain ⟨_, _, _, _, m5, _⟩ := h.ok.mkO h.hm
  have g3 := h.g3
  rw [List.length_cons] at g3
  show (upG _ m.args ++ g).length ≤ 5
  unfold upG
  rw [List.length_append, List.length_map]; omega
end

theorem v_mxd {ns : List Int} : ∃ z, vMx true (.lst (ns.map .int)) (.int (-1)) = some (.int z) ∧ 1 + z = freeN ns := by
  have e : vMx true (.lst (ns.map .int)) (.int (-1)) = some (match maxI ns with | some m => .int m | none => .int (-1)) := by
    show ob (intsV _) _ = _
    rw [intsV_int]; rfl
  unfold freeN
  cases h : maxI ns with
  | none => rw [h] at e; exact ⟨-1, e, rfl⟩
  | some m => rw [h] at e; exact ⟨m, e, rfl⟩
/-- how many parts a maker has -/
def arS (s : Sg) (w : Str) : Option Nat := (s.ms.map fun m => (m.w, m.args.length)).lookup w
/-- pairs that can be matched -/
def ppOk (ar : Str → Option Nat) (W : List (Pt × Pt)) : Prop := ∀ z ∈ W, z.1.ok ar = true ∧ z.2.ok ar = true ∧ z.2.clo = true ∧ z.2.ht ≤ 60 ∧ z.2.size ≤ 16000000
theorem ppOk.deep {ar : Str → Option Nat} {W : List (Pt × Pt)} {w u : Str} {ts us : List Pt} (h : ppOk ar (W ++ [(.node w ts, .node u us)])) (e : w = u) : ts.length = us.length ∧ ppOk ar (W ++ ts.zip us) := by
  obtain ⟨a, b, c, d, f⟩ := h (.node w ts, .node u us) (by simp)
  simp only [Pt.ok, Bool.and_eq_true, decide_eq_true_eq] at a b
  simp only [Pt.clo] at c
  simp only [Pt.ht] at d
  simp only [Pt.size] at f
  have l : ts.length = us.length := Option.some.inj (by rw [← a.1.1, ← b.1.1, e])
  refine ⟨l, fun z hz => ?_⟩
  rcases List.mem_append.mp hz with hz | hz
  · exact h z (List.mem_append_left _ hz)
  · obtain ⟨m1, m2⟩ := List.of_mem_zip (a := z.1) (b := z.2) hz
    have a2 := a.2
    have b2 := b.2
    rw [Pt.oks_all, List.all_eq_true] at a2 b2
    rw [Pt.clos_all, List.all_eq_true] at c
    have := Pt.hts_le.mp (Nat.le_refl (Pt.hts us)) _ m2
    have := Pt.size_mem m2
    exact ⟨a2 _ m1, b2 _ m2, c _ m2, by omega, by omega⟩
/-- a tree of patterns with some leaves -/
structure TrOk (s : Sg) (f j : Nat) (t : Pt) : Prop where
  root : ∃ ps, t = .node "" ps ∧ ps.length = f ∧ Pt.oks (arS s) ps = true
  size : t.size ≤ 4 + 4 * j
  ht : t.ht ≤ 5
theorem TrOk.w {s : Sg} {f j i : Nat} {t : Pt} (h : TrOk s f j t) (hi : j ≤ i) : TrOk s f i t := ⟨h.root, by have := h.size; omega, h.ht⟩
/-- the rows between two turns -/
structure RwOk (s : Sg) (f j : Nat) (rows : List Pt) : Prop where
  ne : 0 < rows.length
  len : rows.length ≤ 1 + 8 * j
  el : ∀ r ∈ rows, TrOk s f j r
theorem RwOk.w {s : Sg} {f j i : Nat} {rows : List Pt} (h : RwOk s f j rows) (hi : j ≤ i) : RwOk s f i rows := ⟨h.ne, by have := h.len; omega, fun r hr => (h.el r hr).w hi⟩
/-- a function of a program -/
structure Fd where
  name : Str
  fams : List Str
  terms : List Tm
  cls : List (List Pt)
def clV (ps : List Pt) : Vl := .tup [.tup (Pt.vs ps), (ps.headD default).v]
def Fd.kinds (f : Fd) : List (Str × Tm) := f.fams.zip f.terms
def Fd.v (f : Fd) : Vl := .tup [.str f.name, glV f.kinds, kiV (f.kinds.headD default), .tup (f.cls.map clV)]
/-- patterns and a call that edges are drawn between -/
structure EdOk (ps as : List Pt) : Prop where
  pw : Pt.wds ps = true
  aw : Pt.wds as = true
  ph : Pt.hts ps ≤ 20
  ah : Pt.hts as ≤ 20
  pz : Pt.sizes ps ≤ 1000
  az : Pt.sizes as ≤ 1000
theorem EdOk.p {ps as : List Pt} (h : EdOk ps as) {i : Nat} (hi : i < ps.length) : ((ps[i]?).getD default).wd = true ∧ ((ps[i]?).getD default).ht ≤ 20 ∧ ((ps[i]?).getD default).size ≤ 1000 := by
  have m : (ps[i]?).getD default ∈ ps := by rw [List.getElem?_eq_getElem hi]; exact List.getElem_mem hi
  have w := h.pw
  rw [Pt.wds_all, List.all_eq_true] at w
  have := Pt.hts_le.mp h.ph _ m
  have := Pt.size_mem m
  have := h.pz
  exact ⟨w _ m, by omega, by omega⟩
theorem EdOk.a {ps as : List Pt} (h : EdOk ps as) {i : Nat} (hi : i < as.length) : ((as[i]?).getD default).wd = true ∧ ((as[i]?).getD default).ht ≤ 20 := by
  have m : (as[i]?).getD default ∈ as := by rw [List.getElem?_eq_getElem hi]; exact List.getElem_mem hi
  have w := h.aw
  rw [Pt.wds_all, List.all_eq_true] at w
  have := Pt.hts_le.mp h.ah _ m
  exact ⟨w _ m, by omega⟩
/-- a function of a program, with its clauses -/
structure Pf where
  name : Str
  kinds : List (Str × Tm)
  res : Str × Tm
  cls : List (List Pt × Pt)
def ccV (c : List Pt × Pt) : Vl := .tup [.tup (Pt.vs c.1), c.2.v]
def Pf.v (f : Pf) : Vl := .tup [.str f.name, glV f.kinds, kiV f.res, .tup (f.cls.map ccV)]
/-- the clauses are small, of words -/
structure CcOk (c : List Pt × Pt) : Prop where
  pw : Pt.wds c.1 = true
  bw : c.2.wd = true
  ph : Pt.hts c.1 ≤ 20
  bh : c.2.ht ≤ 20
  pz : Pt.sizes c.1 ≤ 100
  bz : c.2.size ≤ 100
structure PfOk (f : Pf) : Prop where
  nw : wordB f.name = true
  cl : f.cls.length ≤ 8
  cc : ∀ c ∈ f.cls, CcOk c
theorem PfOk.at {f : Pf} (h : PfOk f) {k : Nat} (hk : k < f.cls.length) : CcOk ((f.cls[k]?).getD default) := by
  rw [List.getElem?_eq_getElem hk]; exact h.cc _ (List.getElem_mem hk)
def Pf.hd (f : Pf) : Str × List (Str × Tm) × (Str × Tm) := (f.name, f.kinds, f.res)
def plD (n : Nat) (v : Vl) : Prop := plain v = true ∧ vdep v ≤ n
theorem vdeps_le' {n : Nat} : ∀ {xs : List Vl}, (∀ x ∈ xs, vdep x ≤ n) → vdeps xs ≤ n
  | [], _ => Nat.zero_le _
  | x :: xs, h => by
    have a := h x (List.mem_cons_self ..)
    have b := vdeps_le' (xs := xs) fun y hy => h y (List.mem_cons_of_mem _ hy)
    rw [vdeps]; omega
theorem plD.tup {n : Nat} {xs : List Vl} (h : ∀ x ∈ xs, plD n x) (l : xs.length ≤ 1000000) : plD (n + 1) (.tup xs) := by
  refine ⟨?_, ?_⟩
  · rw [plain, plains_all, Bool.and_eq_true, List.all_eq_true, decide_eq_true_eq]
    exact ⟨fun x hx => (h x hx).1, by omega⟩
  · have := vdeps_le' fun x hx => (h x hx).2
    rw [vdep]; omega
theorem plD.lst {n : Nat} {xs : List Vl} (h : ∀ x ∈ xs, plD n x) (l : xs.length ≤ 1000000) : plD (n + 1) (.lst xs) := by
  refine ⟨?_, ?_⟩
  · rw [plain, plains_all, Bool.and_eq_true, List.all_eq_true, decide_eq_true_eq]
    exact ⟨fun x hx => (h x hx).1, by omega⟩
  · have := vdeps_le' fun x hx => (h x hx).2
    rw [vdep]; omega
theorem plD.int {n : Nat} {i : Int} : plD n (.int i) := ⟨rfl, Nat.zero_le _⟩
theorem plD.w {n m : Nat} {v : Vl} (h : plD n v) (l : n ≤ m) : plD m v := ⟨h.1, Nat.le_trans h.2 l⟩
/-- terms of few parts -/
def uP2 (c : List (Str × Int)) (A : List Int) (D : List Tm) (t : Tm) : Prop := t.ok c = true ∧ (∀ u ∈ t.sbt, u ∈ D) ∧ ∀ i ∈ t.occ, i ∈ A
/-- equations of terms of few parts -/
structure UE2 (c : List (Str × Int)) (A : List Int) (D : List Tm) (H m : Nat) (E : List (Tm × Tm)) : Prop where
  hc : ConsOk c
  v0 : ∀ i ∈ A, 0 ≤ i ∧ i ≤ 1000
  vl : A.length ≤ m
  dl : D.length + 1 ≤ H
  pr : ∀ z ∈ E, uP2 c A D z.1 ∧ uP2 c A D z.2
  lim : (m + 1) * (E.length * 2 ^ (H + 1)) < WF
  fit : 2 ^ H < sizeLine
  mw : m < WF
section
variable {c : List (Str × Int)} {A : List Int} {D : List Tm} {H m : Nat} {E W : List (Tm × Tm)} {B : List (Int × Tm)} {s : Int → Tm}
theorem uP2.down {w : Str} {ts : List Tm} (h : uP2 c A D (.app w ts)) : ∀ t ∈ ts, uP2 c A D t := fun t ht => by
  obtain ⟨a, b, d⟩ := h
  simp only [Tm.ok, Bool.and_eq_true] at a
  rw [Tm.oks_all, List.all_eq_true] at a
  refine ⟨a.2 t ht, fun u hu => b u (Tm.sbt_down ht hu), fun i hi => d i ?_⟩
  rw [Tm.occ, Tm.occs_flat]
  exact List.mem_flatMap.mpr ⟨t, ht, hi⟩
theorem UE2.at (U : UE2 c A D H m E) (h : UInv E B s W) : (∀ z ∈ W, uP2 c A D z.1 ∧ uP2 c A D z.2) ∧ ∀ z ∈ B, uP2 c A D (.var z.1) ∧ uP2 c A D z.2 := h.pt _ (fun _ _ => uP2.down) U.pr
theorem UE2.len (U : UE2 c A D H m E) (h : UInv E B s W) : B.length ≤ m := by
  have := nd_le h.b.nd (A := A) fun i hi => by
    obtain ⟨z, hz, rfl⟩ := List.mem_map.mp hi
    exact ((U.at h).2 z hz).1.2.2 z.1 (by rw [Tm.occ]; exact List.mem_singleton.mpr rfl)
  rw [List.length_map] at this
  exact Nat.le_trans this U.vl
/-- what a term leads to -/
theorem UE2.lead (U : UE2 c A D H m E) (h : UInv E B s W) : ∀ {t : Tm}, uP2 c A D t → ∃ u, uP2 c A D u ∧ u.sub s = t.sub s ∧ ∀ x, u = .var x → u.sub s = .var x := by
  have v : ∀ i, uP2 c A D (.var i) → ∃ u, uP2 c A D u ∧ u.sub s = s i ∧ ∀ x, u = .var x → u.sub s = .var x := by
    refine fun i => h.b.ind (Q := fun i => uP2 c A D (.var i) → ∃ u, uP2 c A D u ∧ u.sub s = s i ∧ ∀ x, u = .var x → u.sub s = .var x) (fun i hi p => ⟨.var i, p, rfl, fun x e => by cases e; rw [Tm.sub, h.b.fr i hi]⟩) (fun z hz ih p => ?_) i
    have pz := ((U.at h).2 z hz).2
    rw [h.b.bd z hz]
    cases e : z.2 with
    | var j =>
      rw [e] at pz ih
      obtain ⟨u, a, b, d⟩ := ih j (by rw [Tm.occ]; exact List.mem_singleton.mpr rfl) pz
      exact ⟨u, a, by rw [b, Tm.sub], d⟩
    | app w ts =>
      rw [e] at pz
      exact ⟨.app w ts, pz, rfl, fun x e => by cases e⟩
  intro t ht
  cases t with
  | var i => exact v i ht
  | app w ts => exact ⟨.app w ts, ht, rfl, fun x e => by cases e⟩
theorem UE2.chain (U : UE2 c A D H m E) (h : UInv E B s W) : ∀ (j : Nat) {t : Tm}, uP2 c A D t → (t.sub s).ht = j + 2 → ∀ i, i ≤ j → ((i + 2 : Nat) : Int) ∈ D.map fun u => (((u.sub s).ht : Nat) : Int) := by
  intro j
  induction j with
  | zero =>
    intro t ht e i hi
    obtain ⟨u, pu, eu, vu⟩ := U.lead h ht
    have hu : (u.sub s).ht = 2 := by rw [eu, e]
    cases u with
    | var x => rw [vu x rfl, Tm.ht] at hu; omega
    | app w us =>
      have ne : us.isEmpty = false := by
        cases us with
        | nil => rw [Tm.sub, Tm.ht] at hu; simp [Tm.subs, Tm.hts] at hu
        | cons a l => rfl
      have m := pu.2.1 (.app w us) (by rw [Tm.sbt, if_neg (by rw [ne]; exact Bool.false_ne_true)]; exact List.mem_append_left _ (List.mem_singleton.mpr rfl))
      have : i = 0 := by omega
      subst this
      exact List.mem_map.mpr ⟨_, m, by rw [hu]⟩
  | succ j ih =>
    intro t ht e i hi
    obtain ⟨u, pu, eu, vu⟩ := U.lead h ht
    have hu : (u.sub s).ht = j + 1 + 2 := by rw [eu, e]
    cases u with
    | var x => rw [vu x rfl, Tm.ht] at hu; omega
    | app w us =>
      have ne : us.isEmpty = false := by
        cases us with
        | nil => rw [Tm.sub, Tm.ht] at hu; simp [Tm.subs, Tm.hts] at hu
        | cons a l => rfl
      have m := pu.2.1 (.app w us) (by rw [Tm.sbt, if_neg (by rw [ne]; exact Bool.false_ne_true)]; exact List.mem_append_left _ (List.mem_singleton.mpr rfl))
      by_cases c : i = j + 1
      · subst c
        exact List.mem_map.mpr ⟨_, m, by rw [hu]⟩
      · rw [Tm.sub, Tm.ht] at hu
        have hm : ∃ t ∈ us, (t.sub s).ht = j + 2 := by
          have : ∀ {ts : List Tm} {n : Nat}, Tm.hts ts = n + 1 → ∃ t ∈ ts, t.ht = n + 1 := by
            intro ts
            induction ts with
            | nil => intro n e; rw [Tm.hts] at e; cases e
            | cons a l ih =>
              intro n e
              rw [Tm.hts] at e
              by_cases c : a.ht = n + 1
              · exact ⟨a, List.mem_cons_self .., c⟩
              · obtain ⟨t, ht, e⟩ := ih (n := n) (by omega)
                exact ⟨t, List.mem_cons_of_mem _ ht, e⟩
          obtain ⟨t, ht, e⟩ := this (ts := Tm.subs s us) (n := j + 1) (by omega)
          rw [Tm.subs_map] at ht
          obtain ⟨t', ht', rfl⟩ := List.mem_map.mp ht
          exact ⟨t', ht', e⟩
        obtain ⟨t', ht', e'⟩ := hm
        exact ih (pu.down t' ht') e' i (by omega)
theorem UE2.ht (U : UE2 c A D H m E) (h : UInv E B s W) {t : Tm} (ht : uP2 c A D t) : (t.sub s).ht ≤ H := by
  have := U.dl
  rcases Nat.lt_or_ge (t.sub s).ht 2 with c2 | c2
  · omega
  · obtain ⟨j, ej⟩ : ∃ j, (t.sub s).ht = j + 2 := ⟨(t.sub s).ht - 2, by omega⟩
    have ch := U.chain h j ht ej
    have nd := nd_le (l := (List.range (j + 1)).map fun i => ((i + 2 : Nat) : Int)) (A := D.map fun u => (((u.sub s).ht : Nat) : Int)) (nodup_map (f := fun i : Nat => ((i + 2 : Nat) : Int)) (fun x _ y _ e => by have e : x + 2 = y + 2 := Int.ofNat_inj.mp e; omega) List.nodup_range) fun x hx => by
      obtain ⟨i, hi, rfl⟩ := List.mem_map.mp hx
      exact ch i (by have := List.mem_range.mp hi; omega)
    rw [List.length_map, List.length_map, List.length_range] at nd
    omega
theorem UE2.okS (U : UE2 c A D H m E) (h : UInv E B s W) {i : Int} (hi : 0 ≤ i) : (s i).ok c = true := by
  refine h.b.ind (Q := fun i => 0 ≤ i → (s i).ok c = true) (fun i hi h0 => ?_) (fun z hz ih h0 => ?_) i hi
  · rw [h.b.fr i hi, Tm.ok]; exact decide_eq_true h0
  · rw [h.b.bd z hz]
    have p := ((U.at h).2 z hz).2
    exact ok_sub p.1 fun j hj => ih j hj (U.v0 j (p.2.2 j hj)).1
theorem UE2.ok (U : UE2 c A D H m E) (h : UInv E B s W) {t : Tm} (ht : uP2 c A D t) : (t.sub s).ok c = true := ok_sub ht.1 fun i hi => U.okS h (U.v0 i (ht.2.2 i hi)).1
theorem UE2.size (U : UE2 c A D H m E) (h : UInv E B s W) {t : Tm} (ht : uP2 c A D t) : (t.sub s).size < 2 ^ (H) := by
  have a := Tm.size_le (fun z hz => (U.hc.ar z hz).2) (U.ok h ht)
  have b := Nat.pow_le_pow_right (show 0 < 2 by decide) (U.ht h ht)
  omega
theorem UE2.szs (U : UE2 c A D H m E) (h : UInv E B s W) : Mp.szs s W ≤ E.length * 2 ^ (H + 1) := by
  have a := h.sz s h.b.self
  have b := szs_le (f := s) (S := 2 ^ (H)) (V := E) fun z hz => by
    have p := U.pr z hz
    have := U.size h p.1
    have := U.size h p.2
    omega
  rw [show 2 * 2 ^ (H) = 2 ^ (H + 1) by rw [← Nat.pow_succ']] at b
  omega
theorem UE2.m0 (U : UE2 c A D H m E) (h : UInv E B s W) : uM m (E.length * 2 ^ (H + 1)) B s W < WF := by
  have a := U.szs h
  have b := U.lim
  unfold uM
  have := Nat.mul_le_mul_right (E.length * 2 ^ (H + 1)) (show m - B.length ≤ m by omega)
  rw [Nat.add_mul] at b
  omega
theorem UE2.mB {V : List (Tm × Tm)} {x : Int} {u : Tm} {s' : Int → Tm} (U : UE2 c A D H m E) (h : UInv E (B ++ [(x, u)]) s' W) (hv : 0 < Mp.szs s V) : uM m (E.length * 2 ^ (H + 1)) (B ++ [(x, u)]) s' W < uM m (E.length * 2 ^ (H + 1)) B s V := by
  have a := U.szs h
  have b := U.len h
  rw [List.length_append, List.length_singleton] at b
  unfold uM
  rw [List.length_append, List.length_singleton]
  have : (m - B.length) * (E.length * 2 ^ (H + 1)) = (m - (B.length + 1)) * (E.length * 2 ^ (H + 1)) + E.length * 2 ^ (H + 1) := by
    rw [← Nat.succ_mul]; congr 1; omega
  omega
end
set_option maxHeartbeats 4000000 in
theorem v_unifier2 {c : List (Str × Int)} {A : List Int} {D : List Tm} {H m : Nat} {E : List (Tm × Tm)} (U : UE2 c A D H m E) {k : Nat} (hk : H + 4 ≤ k) :
    ∃ r, UniOk E r ∧ (∀ B s, r = some (B, s) → ∀ i j, s i = .var j → j ≤ i) ∧ pcall PT k "unifier" [.lst (E.map pairV)] = some (usV r, [some (.lst (E.map pairV))]) := by
  obtain ⟨k, rfl, hk⟩ := lvl (k := H + 3) (n := k) (by omega)
  suffices w : ∃ z, pcall PT (k + 1) "unifier" [.lst (E.map pairV)] = some z ∧ ∃ r, UniOk E r ∧ (∀ B s, r = some (B, s) → ∀ i j, s i = .var j → j ≤ i) ∧ z = (usV r, [some (.lst (E.map pairV))]) by
    obtain ⟨z, e, r, h1, h2, h3⟩ := w
    exact ⟨r, h1, h2, by rw [e, h3]⟩
  show Ev _ _
  have hz : sizeLine = 16777216 := by decide
  have wf : WF = 1000000 := WF_eq
  rw [pcall_eq F_unifier K_unifier R_unifier rfl]
  walk_at "g"
  refine ev_whl (σ := (List (Int × Tm) × (Int → Tm) × List (Tm × Tm)) × Option Vl × Option Vl × Option Vl × Option Vl × Option Vl × Option Vl) (fun t => [some (.lst (E.map pairV)), some (.dic (dK Tm.v t.1.1)), some (.lst (t.1.2.2.map pairV)), t.2.1, t.2.2.1, t.2.2.2.1, t.2.2.2.2.1, t.2.2.2.2.2.1, t.2.2.2.2.2.2])
    (fun t => UInv E t.1.1 t.1.2.1 t.1.2.2 ∧ ∀ i j, t.1.2.1 i = .var j → j ≤ i) (fun t => uM m (E.length * 2 ^ (H + 1)) t.1.1 t.1.2.1 t.1.2.2) (([], .var, E), none, none, none, none, none, none) rfl ⟨.start, fun i j e => by cases e; exact Int.le_refl _⟩ (U.m0 .start) ?_
  rintro ⟨⟨B, s, W⟩, x3, x4, x5, x6, x7, x8⟩ ⟨inv, sl⟩ K hK
  dsimp only at inv sl hK ⊢
  have hb := U.len inv
  have hm := U.mw
  have bl : B.length < WF := by omega
  walk_at "g"
  rcases List.eq_nil_or_concat W with rfl | ⟨W, ⟨a, b⟩, rfl⟩
  · walk_at "g"
    refine ev_dcOf (xs := B) (fun z => .int z.1) Tm.v (fun z => (z.1, s z.1)) (by unfold dK; rw [List.map_map]; rfl) (by omega) (by rw [List.map_map]; exact inv.b.nd) ?_ ?_
    · intro z hz' K
      have p := ((U.at inv).2 z hz').1
      obtain ⟨r', e'⟩ := v_settled inv.b bl (H) (k := k) (t := .var z.1) (by omega) (U.ht inv p) (Nat.lt_trans (U.size inv p) U.fit)
      walk_at "g"
      rw [show pcall PT k _ [.int z.1, _] = _ from e', Tm.sub]
      walk_at "g"
      rfl
    · walk_at "g"
      exact ⟨_, rfl, some (B, s), inv, (fun B' s' e => by cases e; exact sl), rfl⟩
  simp only [List.concat_eq_append] at inv hK ⊢
  obtain ⟨r, hr, er⟩ := v_resolved inv.b bl (k := k) (t := a) (by omega)
  obtain ⟨q, hq, eq⟩ := v_resolved inv.b bl (k := k) (t := b) (by omega)
  have inv := inv.lead hr hq
  have me : uM m (E.length * 2 ^ (H + 1)) B s (W ++ [(r, q)]) = uM m (E.length * 2 ^ (H + 1)) B s (W ++ [(a, b)]) := by
    unfold uM; rw [szs_app, szs_app, szs_one, szs_one, hr.eq, hq.eq]
  rw [← me] at hK
  have hs0 : 0 < Mp.szs s (W ++ [(r, q)]) := Nat.lt_of_le_of_lt (Nat.zero_le _) usz
  have pw := (U.at inv).1 (r, q) (by simp)
  have wl : 2 * W.length ≤ Mp.szs s (W ++ [(r, q)]) := Nat.le_trans szs_len (Nat.le_of_lt usz)
  have wl2 := U.m0 inv
  have wl3 : Mp.szs s (W ++ [(r, q)]) ≤ uM m (E.length * 2 ^ (H + 1)) B s (W ++ [(r, q)]) := Nat.le_add_left _ _
  rw [List.map_append, List.map_singleton, emp_app]
  walk_at "g"
  rw [v_pop]
  walk_at "g"
  rw [pd_true (by rfl)]
  walk_at "g"
  rw [er]
  walk_at "g"
  rw [eq]
  have dvs : ∀ t, uP2 c A D t → (t.sub s).ht ≤ H ∧ (t.sub s).size < sizeLine := fun t p => ⟨U.ht inv p, Nat.lt_trans (U.size inv p) U.fit⟩
  cases r with
  | var i =>
    have iK := hr.fr i rfl
    have si := inv.b.fr i iK
    cases q with
    | var j =>
      have jK := hq.fr j rfl
      have sj := inv.b.fr j jK
      walk_at "g"
      rw [show decide ((Tm.var i).v.toV = (Tm.var j).v.toV) = decide (i = j) from d_int]
      by_cases ij : i = j
      · rw [decide_eq_true ij]
        walk_at "g"
        exact hK ((B, s, W), _, _, _, _, _, _) ⟨inv.skip (by rw [ij]), sl⟩ usM
      · rw [decide_eq_false ij]
        walk_at "g"
        rcases Int.lt_or_lt_of_ne ij with lt | lt
        · rw [if_pos (show j > i from lt), if_neg (show ¬j < i by omega)]
          rw [show vSet (.dic (dK Tm.v B)) (.int j) (.int i) = _ from v_setd (g := Tm.v) (x := .var i) jK (by omega)]
          walk_at "g"
          have nw := inv.swap.bind jK (show j ∉ ((Tm.var i).sub s).occ by rw [Tm.sub, si, Tm.occ, List.mem_singleton]; omega)
          exact hK ((B ++ [(j, .var i)], nxt s j (.var i), W), _, _, _, _, _, _) ⟨nw, nxt_le sl fun y e => by rw [Tm.sub, si] at e; cases e; exact lt⟩ (U.mB nw hs0)
        · rw [if_neg (show ¬j > i by omega), if_pos (show j < i from lt)]
          rw [show vSet (.dic (dK Tm.v B)) (.int i) (.int j) = _ from v_setd (g := Tm.v) (x := .var j) iK (by omega)]
          walk_at "g"
          have nw := inv.bind iK (show i ∉ ((Tm.var j).sub s).occ by rw [Tm.sub, sj, Tm.occ, List.mem_singleton]; omega)
          exact hK ((B ++ [(i, .var j)], nxt s i (.var j), W), _, _, _, _, _, _) ⟨nw, nxt_le sl fun y e => by rw [Tm.sub, sj] at e; cases e; exact lt⟩ (U.mB nw hs0)
    | app w us =>
      obtain ⟨r', e'⟩ := v_occurs inv.b bl (x := i) (H) (k := k) (t := .app w us) (by omega) (dvs _ pw.2).1 (dvs _ pw.2).2
      walk_at "g"
      rw [pd_true (by rfl)]
      walk_at "g"
      rw [show pcall PT k _ [(Tm.var i).v, (Tm.app w us).v, _] = _ from e']
      by_cases o : i ∈ ((Tm.app w us).sub s).occ
      · rw [decide_eq_true o]
        walk_at "g"
        exact ⟨_, rfl, none, inv.cycle o, (fun _ _ e => nomatch e), rfl⟩
      · rw [decide_eq_false o]
        walk_at "g"
        rw [show vSet (.dic (dK Tm.v B)) (Tm.var i).v (Tm.app w us).v = _ from v_setd (g := Tm.v) (x := .app w us) iK (by omega)]
        walk_at "g"
        have nw := inv.bind iK o
        exact hK ((B ++ [(i, .app w us)], nxt s i (.app w us), W), _, _, _, _, _, _) ⟨nw, nxt_le sl fun y e => by rw [Tm.sub] at e; cases e⟩ (U.mB nw hs0)
  | app w ts =>
    cases q with
    | var j =>
      have jK := hq.fr j rfl
      obtain ⟨r', e'⟩ := v_occurs inv.b bl (x := j) (H) (k := k) (t := .app w ts) (by omega) (dvs _ pw.1).1 (dvs _ pw.1).2
      walk_at "g"
      rw [pd_true (by rfl)]
      walk_at "g"
      rw [show pcall PT k _ [(Tm.var j).v, (Tm.app w ts).v, _] = _ from e']
      by_cases o : j ∈ ((Tm.app w ts).sub s).occ
      · rw [decide_eq_true o]
        walk_at "g"
        exact ⟨_, rfl, none, inv.swap.cycle o, (fun _ _ e => nomatch e), rfl⟩
      · rw [decide_eq_false o]
        walk_at "g"
        rw [show vSet (.dic (dK Tm.v B)) (Tm.var j).v (Tm.app w ts).v = _ from v_setd (g := Tm.v) (x := .app w ts) jK (by omega)]
        walk_at "g"
        have nw := inv.swap.bind jK o
        exact hK ((B ++ [(j, .app w ts)], nxt s j (.app w ts), W), _, _, _, _, _, _) ⟨nw, nxt_le sl fun y e => by rw [Tm.sub] at e; cases e⟩ (U.mB nw hs0)
    | app w' us =>
      have tl : ts.length < 1000000 := by
        have h1 := (U.at inv).1 (.app w ts, .app w' us) (by simp)
        have h2 := U.size inv h1.1
        have h3 := U.fit
        have h4 := Tm.sizes_len (Tm.subs s ts)
        rw [show (Tm.subs s ts).length = ts.length by rw [Tm.subs_map, List.length_map]] at h4
        have h5 : Mp.szs s (W ++ [(.app w ts, .app w' us)]) < WF := Nat.lt_of_le_of_lt wl3 wl2
        rw [szs_app, szs_one, Tm.sub, Tm.size] at h5
        omega
      walk_at "g"
      by_cases hw' : w = w'
      · rw [decide_eq_true hw']
        walk_at "g"
        rw [len_dec]
        by_cases hlen : ts.length = us.length
        · rw [decide_eq_true hlen]
          walk_at "g"
          rw [v_zip ⟨by rw [vs_len, vs_len, hlen], by rw [List.length_zip, vs_len, vs_len]; omega⟩, zip_pair]
          walk_at "g"
          rw [v_ext (by rw [List.length_map, List.length_map, List.length_zip]; omega), ← List.map_append]
          walk_at "g"
          subst hw'
          have nw := inv.deep hlen
          refine hK ((B, s, W ++ ts.zip us), _, _, _, _, _, _) ⟨nw, sl⟩ ?_
          show uM _ _ B s _ < uM _ _ B s _
          unfold uM
          rw [szs_app, szs_app, szs_one, szs_zip hlen, Tm.sub, Tm.sub, Tm.size, Tm.size]
          omega
        · rw [decide_eq_false hlen]
          walk_at "g"
          exact ⟨_, rfl, none, inv.clash (.inr hlen), (fun _ _ e => nomatch e), rfl⟩
      · rw [decide_eq_false hw']
        walk_at "g"
        exact ⟨_, rfl, none, inv.clash (.inl hw'), (fun _ _ e => nomatch e), rfl⟩

section
variable {c : List (Str × Int)} {A : List Int} {D : List Tm} {H m : Nat} {E W : List (Tm × Tm)} {B : List (Int × Tm)} {s : Int → Tm}
theorem UE2.occS (U : UE2 c A D H m E) (h : UInv E B s W) {i : Int} (hi : i ∈ A) : ∀ j ∈ (s i).occ, j ∈ A := by
  refine h.b.ind (Q := fun i => i ∈ A → ∀ j ∈ (s i).occ, j ∈ A) (fun i hi h0 j hj => ?_) (fun z hz ih h0 j hj => ?_) i hi
  · rw [h.b.fr i hi, Tm.occ, List.mem_singleton] at hj
    rw [hj]; exact h0
  · rw [h.b.bd z hz, Tm.occ_sub] at hj
    obtain ⟨l, hl, hj⟩ := List.mem_flatMap.mp hj
    exact ih l hl (((U.at h).2 z hz).2.2.2 l hl) j hj
theorem UE2.capS (U : UE2 c A D H m E) (h : UInv E B s W) (i : Int) : ∀ u ∈ (s i).sbt, u ∈ D.map (Tm.sub s) := by
  refine h.b.ind (Q := fun i => ∀ u ∈ (s i).sbt, u ∈ D.map (Tm.sub s)) (fun i hi u hu => ?_) (fun z hz ih u hu => ?_) i
  · rw [h.b.fr i hi, Tm.sbt] at hu; exact nomatch hu
  · rw [h.b.bd z hz] at hu
    rcases Tm.sbt_sub hu with ⟨v, hv, rfl⟩ | ⟨j, hj, hu⟩
    · exact List.mem_map.mpr ⟨v, ((U.at h).2 z hz).2.2.1 v hv, rfl⟩
    · exact ih j hj u hu
theorem UE2.cap (U : UE2 c A D H m E) (h : UInv E B s W) {t : Tm} (ht : uP2 c A D t) : Mp.cap (t.sub s) D.length := by
  refine ⟨D.map (Tm.sub s), by rw [List.length_map]; exact Nat.le_refl _, fun u hu => ?_⟩
  rcases Tm.sbt_sub hu with ⟨v, hv, rfl⟩ | ⟨j, hj, hu⟩
  · exact List.mem_map.mpr ⟨v, ht.2.1 v hv, rfl⟩
  · exact U.capS h j u hu
end
theorem freeN_lt {ns : List Int} {i : Int} (h : i ∈ ns) : i < freeN ns := by
  unfold freeN
  cases e : maxI ns with
  | none => cases ns with
    | nil => exact nomatch h
    | cons a l => cases e
  | some m =>
    have := (maxI_ok e).2 i h
    show i < 1 + m
    omega
/-- terms to be met -/
structure MtOk (c : List (Str × Int)) (b N : Nat) (t : Tm) : Prop where
  ok : t.ok c = true
  v : ∀ i ∈ t.occ, 0 ≤ i ∧ i < b
  cp : cap t N
  ht : t.ht ≤ 13
theorem MtOk.size {c : List (Str × Int)} (hc : ConsOk c) {b N : Nat} {t : Tm} (h : MtOk c b N t) : t.size ≤ 8192 := by
  have a := Tm.size_le (fun z hz => (hc.ar z hz).2) h.ok
  have := Nat.pow_le_pow_right (show 0 < 2 by decide) h.ht
  omega
def mtV : Option Tm → Vl
  | none => .non
  | some t => t.v
theorem v_above {c : List (Str × Int)} (hc : ConsOk c) {b N : Nat} {t : Tm} (h : MtOk c b N t) {k : Nat} (hk : 15 ≤ k) : pcall PT k "above" [t.v] = some (.int (freeN t.occ), [some t.v]) := by
  obtain ⟨k, rfl, hk⟩ := lvl (k := 14) hk
  refine Ev.eq ?_
  have hz : sizeLine = 16777216 := by decide
  have := h.size hc
  rw [pcall_eq F_above K_above R_above rfl]
  walk_at "g"
  rw [v_occurrences 13 (by omega) h.ht (by omega)]
  walk_at "g"
  obtain ⟨z, e1, e2⟩ := v_mxd (ns := t.occ)
  rw [e1]
  walk_at "g"
  refine ⟨_, rfl, ?_⟩
  rw [← e2]; rfl
theorem upx_ok {c : List (Str × Int)} {t : Tm} {x : Int} (hx : 0 ≤ x) (h : t.ok c = true) (h0 : ∀ i ∈ t.occ, 0 ≤ i) : (up x t).ok c = true := ok_sub h fun i hi => by
  show decide (0 ≤ i + x) = true
  have := h0 i hi
  exact decide_eq_true (by omega)
theorem rn_ht {t : Tm} {g : Int → Int} : (t.sub (vr g)).ht ≤ t.ht := ht_subT (m := 0) fun i _ => by rw [vr, Tm.ht]; omega
theorem td_occ {t : Tm} {n : Nat} (h : (dedup t.occ).length ≤ n) : ∀ i ∈ (td t).occ, 0 ≤ i ∧ i < n := fun i hi => by
  obtain ⟨g, e1, _⟩ := td_is t
  have a := tidy_num [t]
  rw [e1] at a
  have b : i ∈ dedup (Tm.occs [td t]) := dedup_mem.mpr (by rw [Tm.occs, Tm.occs, List.append_nil]; exact hi)
  rw [a] at b
  obtain ⟨j, hj, rfl⟩ := List.mem_map.mp b
  have := List.mem_range.mp hj
  rw [Tm.occs, Tm.occs, List.append_nil] at this
  omega
set_option maxHeartbeats 4000000 in
theorem v_meet {c : List (Str × Int)} (hc : ConsOk c) {a b : Tm} {na nb Na Nb : Nat} (ha : MtOk c na Na a) (hb : MtOk c nb Nb b) (hn : na + nb ≤ 10) (hN : Na + Nb ≤ 12) {k : Nat} (hk : 30 ≤ k) :
    ∃ r, MeetO (some a) (some b) r ∧ (∀ m, r = some m → MtOk c (na + nb) (Na + Nb) m) ∧ pcall PT k "meet" [a.v, b.v] = some (mtV r, [some a.v, some b.v]) := by
  obtain ⟨k, rfl, hk⟩ := lvl (k := 29) hk
  have hz : sizeLine = 16777216 := by decide
  have wf : WF = 1000000 := WF_eq
  have sa := ha.size hc
  have sb' := hb.size hc
  obtain ⟨x, ex⟩ : ∃ x, x = freeN a.occ := ⟨_, rfl⟩
  have xb : 0 ≤ x ∧ x ≤ na := by rw [ex]; exact freeN_le (by omega) ha.v
  have xl : ∀ i ∈ a.occ, i < x := fun i hi => by rw [ex]; exact freeN_lt hi
  obtain ⟨Ua, la, ua⟩ := ha.cp
  obtain ⟨Ub, lb, ub⟩ := hb.cp
  have pa : uP2 c (upto (na + nb)) (Ua ++ Ub.map (Tm.sub (vr fun i => i + x))) a := ⟨ha.ok, fun u hu => List.mem_append_left _ (ua u hu), fun i hi => by
    have := ha.v i hi
    exact List.mem_map.mpr ⟨i.toNat, List.mem_range.mpr (by omega), by omega⟩⟩
  have pb : uP2 c (upto (na + nb)) (Ua ++ Ub.map (Tm.sub (vr fun i => i + x))) (up x b) := by
    refine ⟨upx_ok xb.1 hb.ok fun i hi => (hb.v i hi).1, fun u hu => ?_, fun i hi => ?_⟩
    · rcases Tm.sbt_sub (show u ∈ (b.sub (vr fun i => i + x)).sbt from hu) with ⟨v, hv, rfl⟩ | ⟨j, hj, hu⟩
      · exact List.mem_append_right _ (List.mem_map.mpr ⟨v, ub v hv, rfl⟩)
      · rw [vr, Tm.sbt] at hu; exact nomatch hu
    · unfold up at hi
      rw [Tm.occ_sub] at hi
      obtain ⟨j, hj, hi⟩ := List.mem_flatMap.mp hi
      rw [vr, Tm.occ, List.mem_singleton] at hi
      have := hb.v j hj
      exact List.mem_map.mpr ⟨i.toNat, List.mem_range.mpr (by omega), by omega⟩
  have U : UE2 c (upto (na + nb)) (Ua ++ Ub.map (Tm.sub (vr fun i => i + x))) 13 10 [(a, up x b)] := by
    refine ⟨hc, fun i hi => ?_, ?_, ?_, fun z hz => ?_, ?_, ?_, ?_⟩
    · obtain ⟨j, hj, rfl⟩ := List.mem_map.mp hi
      have := List.mem_range.mp hj
      omega
    · unfold upto; rw [List.length_map, List.length_range]; exact hn
    · rw [List.length_append, List.length_map]; omega
    · rw [List.mem_singleton.mp hz]; exact ⟨pa, pb⟩
    · rw [wf]; show 11 * (1 * 2 ^ 14) < 1000000; decide
    · rw [hz]; decide
    · rw [wf]; decide
  obtain ⟨r, hr, _, er⟩ := v_unifier2 U (k := k) (by omega)
  have er : pcall PT k "unifier" [.lst [.tup [a.v, (up x b).v]]] = _ := er
  have upf : ∀ f : Int → Tm, (up x b).sub f = b.sub fun i => f (i + x) := fun f => by unfold up; rw [Tm.sub_sub]; rfl
  cases r with
  | none =>
    refine ⟨none, ⟨(fun m e => by cases e), fun t => ⟨fun h => absurd h dn_none, fun ⟨h1, h2⟩ => ?_⟩⟩, (fun m e => by cases e), Ev.eq ?_⟩
    · exfalso
      obtain ⟨f1, e1⟩ := instB_iff.mp (dn_some.mp h1)
      obtain ⟨f2, e2⟩ := instB_iff.mp (dn_some.mp h2)
      refine hr (fun i => if i < x then f1 i else f2 (i - x)) (uni_one.mpr ?_)
      rw [upf]
      refine (Tm.sub_congr fun i hi => if_pos (xl i hi)).trans (e1.trans (e2.symm.trans (Tm.sub_congr fun i hi => ?_)))
      have := hb.v i hi
      rw [if_neg (by omega), Int.add_sub_cancel]
    · rw [pcall_eq F_meet K_meet R_meet rfl]
      walk_at "g"
      rw [v_above hc ha (by omega), ← ex]
      walk_at "g"
      rw [v_shifted 13 (by omega) hb.ht (by omega)]
      walk_at "g"
      rw [er]
      walk_at "g"
      exact ⟨_, rfl, rfl⟩
  | some z =>
    obtain ⟨B, s⟩ := z
    have hr : UInv [(a, up x b)] B s [] := hr
    have hs := hr.self
    have hs := uni_one.mp hs
    rw [upf] at hs
    refine ⟨some (td (a.sub s)), ⟨(fun m e => by cases e; exact td_td _), fun t => ?_⟩, fun m e => ?_, Ev.eq ?_⟩
    · rw [dn_some, dn_some, dn_some]
      have tl := td_low (a.sub s)
      constructor
      · intro h
        have h := inst_trans tl.1 h
        obtain ⟨f, e⟩ := instB_iff.mp h
        refine ⟨instB_iff.mpr ⟨_, by rw [← e, Tm.sub_sub]⟩, ?_⟩
        rw [hs] at e
        exact instB_iff.mpr ⟨_, by rw [← e, Tm.sub_sub]⟩
      · rintro ⟨h1, h2⟩
        obtain ⟨f1, e1⟩ := instB_iff.mp h1
        obtain ⟨f2, e2⟩ := instB_iff.mp h2
        have af : a.sub (fun i => if i < x then f1 i else f2 (i - x)) = t := (Tm.sub_congr fun i hi => if_pos (xl i hi)).trans e1
        have un : uni (fun i => if i < x then f1 i else f2 (i - x)) [(a, up x b)] := uni_one.mpr (by
          rw [upf, af, ← e2]
          refine (Tm.sub_congr fun i hi => ?_).symm
          have := hb.v i hi
          show (if i + x < x then f1 (i + x) else f2 (i + x - x)) = _
          rw [if_neg (by omega), Int.add_sub_cancel])
        have ab := hr.nil.mp un
        refine inst_trans tl.2 (instB_iff.mpr ⟨fun i => if i < x then f1 i else f2 (i - x), ?_⟩)
        rw [← ab.tm a, af]
    · cases e
      obtain ⟨g, _, eg, _⟩ := td_is (a.sub s)
      have hh := U.ht hr pa
      have hd : (dedup (a.sub s).occ).length ≤ na + nb := by
        have := nd_le (dedup_nodup (a.sub s).occ) (A := upto (na + nb)) fun i hi => by
          have hi := dedup_mem.mp hi
          rw [Tm.occ_sub] at hi
          obtain ⟨j, hj, hi⟩ := List.mem_flatMap.mp hi
          exact U.occS hr (pa.2.2 j hj) i hi
        unfold upto at this
        rwa [List.length_map, List.length_range] at this
      refine ⟨?_, td_occ hd, ?_, ?_⟩
      · rw [eg]; exact Tm.ok_rn (U.ok hr pa)
      · rw [eg]
        exact (cap.rn (U.cap hr pa)).w (by rw [List.length_append, List.length_map]; omega)
      · rw [eg]
        exact Nat.le_trans rn_ht hh
    · have hh := U.ht hr pa
      have hsz := U.size hr pa
      have e13 : 2 ^ 13 = 8192 := by decide
      obtain ⟨g, e1, _⟩ := td_is (a.sub s)
      rw [pcall_eq F_meet K_meet R_meet rfl]
      walk_at "g"
      rw [v_above hc ha (by omega), ← ex]
      walk_at "g"
      rw [v_shifted 13 (by omega) hb.ht (by omega)]
      walk_at "g"
      rw [er]
      walk_at "g"
      rw [show pcall PT k _ [a.v, usV (some (B, s))] = _ from v_substituted (l := uD B s) (t := a) 13 (by omega) ha.ht (by omega), hr.b.uDt]
      walk_at "g"
      rw [show pcall PT k _ [.tup [(a.sub s).v]] = _ from v_tidied (n := 13) (ts := [a.sub s]) (by omega) (by rw [Tm.hts, Tm.hts]; omega) (by rw [Tm.sizes, Tm.sizes]; omega), e1]
      walk_at "g"
      exact ⟨_, rfl, rfl⟩

structure OtOk (c : List (Str × Int)) (t : Tm) : Prop where
  ok : t.ok c = true
  v : ∀ i ∈ t.occ, 0 ≤ i ∧ i ≤ 2000
  ht : t.ht ≤ 13
section
variable {c : List (Str × Int)} {a b t p q r : Tm}
theorem MtOk.ot {n N : Nat} (h : MtOk c n N t) (hn : n ≤ 2000) : OtOk c t := ⟨h.ok, fun i hi => by have := h.v i hi; omega, h.ht⟩
theorem OtOk.size (hc : ConsOk c) (h : OtOk c t) : t.size ≤ 8192 := by
  have a := Tm.size_le (fun z hz => (hc.ar z hz).2) h.ok
  have := Nat.pow_le_pow_right (show 0 < 2 by decide) h.ht
  omega
theorem OtOk.dv (hc : ConsOk c) (h : OtOk c t) : DV t.v 2000 13 900000 := by
  have := h.size hc
  exact (DV_tm hc (b := 2000) (by decide) h.ok fun i hi => by have := h.v i hi; omega).w (Nat.le_refl _) h.ht (by omega)
theorem MtOk.wok {n N : Nat} (hc : ConsOk c) (h : MtOk c n N t) (hn : n ≤ 10) : t.wok = true := wok_of hc h.ok fun i hi => by have := h.v i hi; omega
theorem v_alike (hc : ConsOk c) (ha : OtOk c a) (hb : OtOk c b) {k : Nat} (hk : 20 ≤ k) : pcall PT k "_law_alike" [a.v, b.v] = some (.bl (instB a b && instB b a), [some a.v, some b.v]) := by
  obtain ⟨k, rfl, hk⟩ := lvl (k := 19) hk
  refine Ev.eq ?_
  have sa := ha.size hc
  have sb' := hb.size hc
  rw [pcall_eq F__law_alike K__law_alike R__law_alike rfl]
  walk_at "g"
  rw [v_is_instance (n := 13) (by decide) (by omega) ha.ht (hb.dv hc) (by omega)]
  cases instB a b with
  | false =>
    walk_at "g"
    exact ⟨_, rfl, rfl⟩
  | true =>
    walk_at "g"
    rw [v_is_instance (n := 13) (by decide) (by omega) hb.ht (ha.dv hc) (by omega)]
    walk_at "g"
    exact ⟨_, rfl, by rw [Bool.true_and]; rfl⟩
theorem v_same_up (hc : ConsOk c) (ha : OtOk c a) (hb : OtOk c b) {k : Nat} (hk : 20 ≤ k) : pcall PT k "same_up_to_names" [a.v, b.v] = some (.bl (instB a b && instB b a), [some a.v, some b.v]) := by
  obtain ⟨k, rfl, hk⟩ := lvl (k := 19) hk
  refine Ev.eq ?_
  have sa := ha.size hc
  have sb' := hb.size hc
  obtain ⟨r1, m1, e1⟩ := v_match (by decide) (k := k) (by omega) (hb.dv hc) (g := a) (by omega)
  obtain ⟨r2, m2, e2⟩ := v_match (by decide) (k := k) (by omega) (ha.dv hc) (g := b) (by omega)
  rw [pcall_eq F_same_up_to_names K_same_up_to_names R_same_up_to_names rfl]
  walk_at "g"
  rw [e1, m1.inst, m2.inst]
  cases r1 with
  | none =>
    walk_at "g"
    exact ⟨_, rfl, rfl⟩
  | some G =>
    walk_at "g"
    rw [e2]
    cases r2 with
    | none =>
      walk_at "g"
      exact ⟨_, rfl, rfl⟩
    | some G2 =>
      walk_at "g"
      exact ⟨_, rfl, rfl⟩
theorem v_meet_of (hc : ConsOk c) {x y : Option Tm} {na nb Na Nb : Nat} (hx : ∀ m, x = some m → MtOk c na Na m) (hy : ∀ m, y = some m → MtOk c nb Nb m) (hn : na + nb ≤ 10) (hN : Na + Nb ≤ 12) {k : Nat} (hk : 31 ≤ k) :
    ∃ r, MeetO x y r ∧ (∀ m, r = some m → MtOk c (na + nb) (Na + Nb) m) ∧ pcall PT k "_law_meet_of" [mtV x, mtV y] = some (mtV r, [some (mtV x), some (mtV y)]) := by
  obtain ⟨k, rfl, hk⟩ := lvl (k := 30) hk
  cases x with
  | none =>
    refine ⟨none, .none (.inl rfl), (fun m e => by cases e), Ev.eq ?_⟩
    rw [pcall_eq F__law_meet_of K__law_meet_of R__law_meet_of rfl]
    walk_at "g"
    exact ⟨_, rfl, rfl⟩
  | some a =>
    cases y with
    | none =>
      refine ⟨none, .none (.inr rfl), (fun m e => by cases e), Ev.eq ?_⟩
      rw [pcall_eq F__law_meet_of K__law_meet_of R__law_meet_of rfl]
      cases a with
      | var i =>
        walk_at "g"
        exact ⟨_, rfl, rfl⟩
      | app w ts =>
        walk_at "g"
        exact ⟨_, rfl, rfl⟩
    | some b =>
      obtain ⟨r, h1, h2, e⟩ := v_meet hc (hx a rfl) (hy b rfl) hn hN (k := k) (by omega)
      refine ⟨r, h1, h2, Ev.eq ?_⟩
      rw [pcall_eq F__law_meet_of K__law_meet_of R__law_meet_of rfl]
      cases a with
      | var i =>
        cases b with
        | var j =>
          walk_at "g"
          rw [show pcall PT k _ [mtV (some (.var i)), mtV (some (.var j))] = _ from e]
          walk_at "g"
          exact ⟨_, rfl, rfl⟩
        | app u us =>
          walk_at "g"
          rw [show pcall PT k _ [mtV (some (.var i)), mtV (some (.app u us))] = _ from e]
          walk_at "g"
          exact ⟨_, rfl, rfl⟩
      | app w ts =>
        cases b with
        | var j =>
          walk_at "g"
          rw [show pcall PT k _ [mtV (some (.app w ts)), mtV (some (.var j))] = _ from e]
          walk_at "g"
          exact ⟨_, rfl, rfl⟩
        | app u us =>
          walk_at "g"
          rw [show pcall PT k _ [mtV (some (.app w ts)), mtV (some (.app u us))] = _ from e]
          walk_at "g"
          exact ⟨_, rfl, rfl⟩
theorem same_mt (hc : ConsOk c) {r : Option Tm} (h : ∀ m, r = some m → OtOk c m) {k : Nat} (hk : 20 ≤ k) : pcall PT k "_law_same" [mtV r, mtV r] = some (.bl true, [some (mtV r), some (mtV r)]) := by
  cases r with
  | none => exact v_same 0 (by omega) (a := .non) rfl (Nat.le_refl _)
  | some t =>
    have := (h t rfl).size hc
    have := (h t rfl).ht
    exact v_same 13 (by omega) (a := t.v) (Tm.plain (by omega)) (by have := Tm.dep (t := t); omega)
theorem same_tm (hc : ConsOk c) (h : OtOk c t) {k : Nat} (hk : 20 ≤ k) : pcall PT k "_law_same" [t.v, t.v] = some (.bl true, [some t.v, some t.v]) := by
  have := h.size hc
  have := h.ht
  exact v_same 13 (by omega) (a := t.v) (Tm.plain (by omega)) (by have := Tm.dep (t := t); omega)
end

def k13b : List Sm := match fn_law.body.drop 2 with
  | .loop _ _ _ b :: _ => b
  | _ => []
def k13e (sc pl : Option Vl) (c : List (Str × Int)) (x3 : Option Vl) (p q r : Tm) (x7 x8 x9 x10 : Option Vl) : Env := [sc, pl, some (consV c), x3, some p.v, some q.v, some r.v, x7, x8, x9, x10]
/-- the three terms of a turn -/
structure K13 (c : List (Str × Int)) (p q r : Tm) : Prop where
  hc : ConsOk c
  mp : MtOk c 2 6 p
  mq : MtOk c 3 3 q
  mr : MtOk c 2 3 r
  qh : q.ht ≤ 3
  qs : q.size ≤ 7
section
variable {c : List (Str × Int)} {p q r : Tm}
theorem K13.j (h : K13 c p q r) (a : Tm) : MtOk c 7 3 (joinT a q) := by
  rw [← join_comm a q]
  obtain ⟨h1, h2, h3, h4⟩ := join_ok (q := a) h.mq.ok
  have hq := h.qs
  have hh := h.qh
  refine ⟨h1, fun i hi => by have := h4 i hi; omega, ⟨(joinT q a).sbt, ?_, fun u hu => hu⟩, by omega⟩
  have := Tm.sbt_le (fun z hz => (h.hc.ar z hz).2) h1
  have : 2 ^ ((joinT q a).ht - 1) ≤ 2 ^ 2 := Nat.pow_le_pow_right (by decide) (by omega)
  omega
theorem K13.j2 (h : K13 c p q r) (a : Tm) : MtOk c 7 3 (joinT q a) := by
  rw [← join_comm q a]; exact h.j a
theorem td_ot (h : OtOk c p) (hs : p.size ≤ 8192) : OtOk c (td p) := by
  obtain ⟨g, _, eg, _⟩ := td_is p
  have dl := dedup_len p.occ
  have ol := p.occ_len
  have hh := h.ht
  have hn := h.v
  refine ⟨by rw [eg]; exact Tm.ok_rn h.ok, fun i hi => ?_, by rw [eg]; exact Nat.le_trans rn_ht hh⟩
  have hd : (dedup p.occ).length ≤ 2001 := by
    have := nd_le (dedup_nodup p.occ) (A := upto 2001) fun i hi => by
      have := hn i (dedup_mem.mp hi)
      exact List.mem_map.mpr ⟨i.toNat, List.mem_range.mpr (by omega), by omega⟩
    unfold upto at this
    rwa [List.length_map, List.length_range] at this
  have := td_occ hd i hi
  omega
theorem K13.ot (h : K13 c p q r) : OtOk c p ∧ OtOk c q ∧ OtOk c r ∧ OtOk c (td p) := ⟨h.mp.ot (by decide), h.mq.ot (by decide), h.mr.ot (by decide), td_ot (h.mp.ot (by decide)) (h.mp.size h.hc)⟩
set_option maxHeartbeats 4000000 in
/-- the last loop of a turn -/
theorem k13_loop (h : K13 c p q r) {k : Nat} (hk : 60 ≤ k) {N : Nd} {Q : Rt → Prop} {sc pl x3 x7 x9 x10 : Option Vl}
    (qq : ∀ x10, Ev (N.nx (k13e sc pl c x3 p q r x7 (some (td p).v) x9 x10)) Q) : Ev (pk (pcall PT k) PT false (k13b.drop 13) kd_law (k13e sc pl c x3 p q r x7 (some (td p).v) x9 x10) N) Q := by
  have hc := h.hc
  have hz : sizeLine = 16777216 := by decide
  obtain ⟨op, oq, or', ot⟩ := h.ot
  have sp := op.size hc
  have sq := oq.size hc
  have q3 := h.qh
  have q7 := h.qs
  have ph := op.ht
  refine ev_loopT (L := [p.v, q.v, (td p).v, (up 3 p).v, (q.sub (sb [(0, .var 1), (1, .var 0)])).v, (q.sub (sb [(1, .var 0)])).v]) (env' := k13e sc pl c x3 p q r x7 (some (td p).v) x9 x10) rfl (fun K => ?_) ?_
  · walk_at "g"
    rw [v_moved 13 (by omega) ph (by omega)]
    walk_at "g"
    rw [show pcall PT k _ [q.v, .dic (mergeV [] [(Sum.inl 0, .int 1), (Sum.inl 1, .int 0)])] = _ from v_replace (l := [(0, .var 1), (1, .var 0)]) 3 (by omega) (by omega) (by omega)]
    walk_at "g"
    rw [show pcall PT k _ [q.v, .dic (mergeV [] [(Sum.inl 1, .int 0)])] = _ from v_replace (l := [(1, .var 0)]) 3 (by omega) (by omega) (by omega)]
    walk_at "g"
  have sub2 : ∀ l : List (Int × Tm), (∀ z ∈ l, z.2.ok c = true ∧ z.2.ht ≤ 1 ∧ ∀ i ∈ z.2.occ, 0 ≤ i ∧ i ≤ 9) → OtOk c (q.sub (sb l)) := fun l hl => by
    have f : ∀ i ∈ q.occ, (sb l i).ok c = true ∧ (sb l i).ht ≤ 1 ∧ ∀ j ∈ (sb l i).occ, 0 ≤ j ∧ j ≤ 2000 := fun i hi => by
      rcases sb_cases l i with ⟨z, hz, _, e⟩ | e
      · rw [e]
        obtain ⟨a, b, d⟩ := hl z hz
        exact ⟨a, b, fun j hj => by have := d j hj; omega⟩
      · rw [e]
        have := h.mq.v i hi
        exact ⟨by rw [Tm.ok]; exact decide_eq_true this.1, by rw [Tm.ht]; exact Nat.le_refl _, fun j hj => by rw [Tm.occ, List.mem_singleton] at hj; omega⟩
    have hh := ht_subT (m := 0) (f := sb l) (t := q) fun i hi => by have := (f i hi).2.1; omega
    refine ⟨ok_sub h.mq.ok fun i hi => (f i hi).1, fun j hj => ?_, by omega⟩
    rw [Tm.occ_sub] at hj
    obtain ⟨i, hi, hj⟩ := List.mem_flatMap.mp hj
    exact (f i hi).2.2 j hj
  have v01 : ∀ i : Int, 0 ≤ i ∧ i ≤ 9 → (Tm.var i).ok c = true ∧ (Tm.var i).ht ≤ 1 ∧ ∀ j ∈ (Tm.var i).occ, 0 ≤ j ∧ j ≤ 9 := fun i hi => ⟨by rw [Tm.ok]; exact decide_eq_true hi.1, by rw [Tm.ht]; exact Nat.le_refl _, fun j hj => by rw [Tm.occ, List.mem_singleton] at hj; rw [hj]; exact hi⟩
  have key : ∀ y ∈ [p.v, q.v, (td p).v, (up 3 p).v, (q.sub (sb [(0, .var 1), (1, .var 0)])).v, (q.sub (sb [(1, .var 0)])).v], ∃ u : Tm, y = u.v ∧ OtOk c u := fun y hy => by
    simp only [List.mem_cons, List.not_mem_nil, or_false] at hy
    rcases hy with rfl | rfl | rfl | rfl | rfl | rfl
    · exact ⟨_, rfl, op⟩
    · exact ⟨_, rfl, oq⟩
    · exact ⟨_, rfl, ot⟩
    · refine ⟨_, rfl, up_ok (by decide) op.ok fun i hi => (op.v i hi).1, fun i hi => ?_, by unfold up; exact Nat.le_trans rn_ht ph⟩
      unfold up at hi
      rw [Tm.occ_sub] at hi
      obtain ⟨j, hj, hi⟩ := List.mem_flatMap.mp hi
      rw [vr, Tm.occ, List.mem_singleton] at hi
      have := h.mp.v j hj
      omega
    · exact ⟨_, rfl, sub2 _ fun z hz => by
        simp only [List.mem_cons, List.not_mem_nil, or_false] at hz
        rcases hz with rfl | rfl
        · exact v01 1 (by decide)
        · exact v01 0 (by decide)⟩
    · exact ⟨_, rfl, sub2 _ fun z hz => by rw [List.mem_singleton.mp hz]; exact v01 0 (by decide)⟩
  refine ev_for (σ := Option Vl) (fun x => k13e sc pl c x3 p q r x7 (some (td p).v) x9 x) (fun _ => True) x10 rfl trivial ?_ ?_
  · rintro y x10 hy _ C hC
    obtain ⟨u, rfl, ou⟩ := key y hy
    walk_at "g"
    rw [v_same_up hc op ou (by omega)]
    walk_at "g"
    rw [v_alike hc op ou (by omega)]
    walk_at "g"
    rw [v_same 0 (by omega) (a := .bl (instB p u && instB u p)) rfl (Nat.le_refl _)]
    walk_at "g"
    exact hC _ trivial
  · rintro x10 _
    exact qq x10
end
set_option maxHeartbeats 8000000 in
theorem k13_rest {c : List (Str × Int)} {p q r : Tm} (h : K13 c p q r) {k : Nat} (hk : 60 ≤ k) {N : Nd} {Q : Rt → Prop} {sc pl x3 x7 x8 x9 x10 : Option Vl}
    (qq : ∀ x7 x8 x9 x10, Ev (N.nx (k13e sc pl c x3 p q r x7 x8 x9 x10)) Q) : Ev (pk (pcall PT k) PT false (k13b.drop 4) kd_law (k13e sc pl c x3 p q r x7 x8 x9 x10) N) Q := by
  have hc := h.hc
  have hz : sizeLine = 16777216 := by decide
  obtain ⟨op, oq, or', ot⟩ := h.ot
  have sp := op.size hc
  have sq := oq.size hc
  have sr := or'.size hc
  have wp := h.mp.wok hc (by decide)
  have wq := h.mq.wok hc (by decide)
  have wr := h.mr.wok hc (by decide)
  have j1 := h.j p
  have j2 := h.j2 r
  have oj := j1.ot (by decide)
  have oj2 := j2.ot (by decide)
  have wj := j1.wok hc (by decide)
  have wj2 := j2.wok hc (by decide)
  have sj := oj.size hc
  have sj2 := oj2.size hc
  obtain ⟨b, mb, ob, eb⟩ := v_meet hc h.mp h.mq (by decide) (by decide) (k := k) (by omega)
  obtain ⟨b', mb', ob', eb'⟩ := v_meet hc h.mq h.mp (by decide) (by decide) (k := k) (by omega)
  have e1 := mb.comm mb'
  obtain ⟨x1, mx1, ox1, ex1⟩ := v_meet_of hc (x := b) (y := some r) ob (fun m e => by cases e; exact h.mr) (by decide) (by decide) (k := k) (by omega)
  obtain ⟨y0, my0, oy0, ey0⟩ := v_meet_of hc (x := some q) (y := some r) (fun m e => by cases e; exact h.mq) (fun m e => by cases e; exact h.mr) (by decide) (by decide) (k := k) (by omega)
  obtain ⟨y1, my1, oy1, ey1⟩ := v_meet_of hc (x := some p) (y := y0) (fun m e => by cases e; exact h.mp) oy0 (by decide) (by decide) (k := k) (by omega)
  have ea := MeetO.assoc mb my0 mx1 my1
  obtain ⟨r1, mr1, _, er1⟩ := v_meet hc h.mp h.mp (by decide) (by decide) (k := k) (by omega)
  have hr1 := mr1.low (inst_refl p)
  obtain ⟨r2, mr2, _, er2⟩ := v_meet hc h.mp j1 (by decide) (by decide) (k := k) (by omega)
  have hr2 := mr2.low join_le.1
  have fj : (instB (joinT p q) q && instB q (joinT p q)) = instB q p := by
    rw [join_le.2, Bool.true_and, Bool.eq_iff_iff, join_up]
    exact ⟨fun h => h.1, fun h => ⟨h, inst_refl q⟩⟩
  have jpq := v_join (n := 13) (k := k) (by omega) op.ht oq.ht wp wq (by omega) (by omega)
  walk_at "g"
  rw [eb]
  walk_at "g"
  rw [eb', e1]
  walk_at "g"
  rw [same_mt hc (fun m e => (ob m e).ot (by decide)) (by omega)]
  walk_at "g"
  rw [v_join (n := 13) (by omega) oq.ht op.ht wq wp (by omega) (by omega)]
  walk_at "g"
  rw [jpq, join_comm p q]
  walk_at "g"
  rw [same_tm hc oj (by omega)]
  walk_at "g"
  rw [show pcall PT k _ [mtV b, r.v] = _ from ex1]
  walk_at "g"
  rw [show pcall PT k _ [q.v, r.v] = _ from ey0]
  walk_at "g"
  rw [show pcall PT k _ [p.v, mtV y0] = _ from ey1, ea]
  walk_at "g"
  rw [same_mt hc (fun m e => (oy1 m e).ot (by decide)) (by omega)]
  walk_at "g"
  rw [jpq]
  walk_at "g"
  rw [v_join (n := 13) (by omega) oj.ht or'.ht wj wr (by omega) (by omega)]
  walk_at "g"
  rw [v_join (n := 13) (by omega) oq.ht or'.ht wq wr (by omega) (by omega)]
  walk_at "g"
  rw [v_join (n := 13) (by omega) op.ht oj2.ht wp wj2 (by omega) (by omega), ← join_assoc p q r]
  walk_at "g"
  rw [same_tm hc (show OtOk c (joinT (joinT p q) r) by
    obtain ⟨a1, a2, a3, a4⟩ := join_ok (q := r) oj.ok
    have a5 := oj.ht
    have a6 := h.qs
    have a7 := (join_ok (q := p) h.mq.ok).2.2.1
    rw [join_comm p q] at a7
    exact ⟨a1, fun i hi => by have := a4 i hi; omega, by omega⟩) (by omega)]
  walk_at "g"
  obtain ⟨g0, eg0, _⟩ := td_is p
  rw [show pcall PT k _ [.tup [p.v]] = _ from v_renumbered (n := 13) (ts := [p]) (by omega) (by rw [Tm.hts, Tm.hts]; have := op.ht; omega) (by rw [Tm.sizes, Tm.sizes]; omega), eg0]
  walk_at "g"
  rw [er1, hr1]
  walk_at "g"
  rw [v_join (n := 13) (by omega) op.ht op.ht wp wp (by omega) (by omega), join_low (inst_refl p)]
  walk_at "g"
  rw [jpq]
  walk_at "g"
  rw [er2, hr2]
  walk_at "g"
  have tpl := Tm.plain (t := td p) (by have := ot.size hc; omega)
  have tdp := Tm.dep (t := td p)
  rw [show pcall PT k _ [.lst [mtV (some (td p)), (td p).v, mtV (some (td p))], .lst [(td p).v, (td p).v, (td p).v]] = _ from v_same 14 (by omega) (a := .lst [(td p).v, (td p).v, (td p).v]) (by simp [plain, plains, tpl]) (by have := ot.ht; simp only [vdep, vdeps]; omega)]
  cases b with
  | none =>
    have fq : instB q p = false := by
      cases e : instB q p with
      | false => rfl
      | true => exact absurd ((mb.eq p).mpr ⟨dn_some.mpr (inst_refl p), dn_some.mpr e⟩) dn_none
    rw [fq] at fj
    walk_at "g"
    rw [v_is_instance (n := 13) (by decide) (by omega) oq.ht (op.dv hc) (by omega), fq]
    walk_at "g"
    rw [jpq]
    walk_at "g"
    rw [v_alike hc oj oq (by omega), fj]
    exact k13_loop h (by omega) fun x10 => qq _ _ _ x10
  | some bm =>
    cases bm with
    | var bi =>
      have oB := (ob (.var bi) rfl).ot (by decide : 5 ≤ 2000)
      have wB := (ob (.var bi) rfl).wok hc (by decide)
      have sB := oB.size hc
      have dB : ∀ t, instB (.var bi) t = true ↔ instB p t = true ∧ instB q t = true := fun t => by
        have := mb.eq t
        rwa [dn_some, dn_some, dn_some] at this
      have pB : instB p (.var bi) = true := ((dB _).mp (inst_refl _)).1
      have fb : (instB (.var bi) p && instB p (.var bi)) = instB q p := by
        rw [pB, Bool.and_true, Bool.eq_iff_iff, dB p]
        exact ⟨fun h => h.2, fun h => ⟨inst_refl p, h⟩⟩
      walk_at "g"
      rw [show pcall PT k _ [p.v, mtV (some (.var bi))] = _ from v_join (n := 13) (q := (.var bi)) (by omega) op.ht oB.ht wp wB (by omega) (by omega), join_low pB]
      walk_at "g"
      rw [same_tm hc ot (by omega)]
      walk_at "g"
      rw [show pcall PT k _ [mtV (some (.var bi)), p.v] = _ from v_alike hc oB op (by omega), fb]
      walk_at "g"
      rw [v_is_instance (n := 13) (by decide) (by omega) oq.ht (op.dv hc) (by omega)]
      generalize hw : instB q p = bw at fj
      cases bw with
      | false =>
        walk_at "g"
        rw [v_join (n := 13) (by omega) op.ht oq.ht wp wq (by omega) (by omega)]
        walk_at "g"
        rw [v_alike hc oj oq (by omega), fj]
        exact k13_loop h (by omega) fun x10 => qq _ _ _ x10
      | true =>
        walk_at "g"
        rw [v_join (n := 13) (by omega) op.ht oq.ht wp wq (by omega) (by omega)]
        walk_at "g"
        rw [v_alike hc oj oq (by omega), fj]
        exact k13_loop h (by omega) fun x10 => qq _ _ _ x10
    | app bw' bs =>
      have oB := (ob (.app bw' bs) rfl).ot (by decide : 5 ≤ 2000)
      have wB := (ob (.app bw' bs) rfl).wok hc (by decide)
      have sB := oB.size hc
      have dB : ∀ t, instB (.app bw' bs) t = true ↔ instB p t = true ∧ instB q t = true := fun t => by
        have := mb.eq t
        rwa [dn_some, dn_some, dn_some] at this
      have pB : instB p (.app bw' bs) = true := ((dB _).mp (inst_refl _)).1
      have fb : (instB (.app bw' bs) p && instB p (.app bw' bs)) = instB q p := by
        rw [pB, Bool.and_true, Bool.eq_iff_iff, dB p]
        exact ⟨fun h => h.2, fun h => ⟨inst_refl p, h⟩⟩
      walk_at "g"
      rw [show pcall PT k _ [p.v, mtV (some (.app bw' bs))] = _ from v_join (n := 13) (q := (.app bw' bs)) (by omega) op.ht oB.ht wp wB (by omega) (by omega), join_low pB]
      walk_at "g"
      rw [same_tm hc ot (by omega)]
      walk_at "g"
      rw [show pcall PT k _ [mtV (some (.app bw' bs)), p.v] = _ from v_alike hc oB op (by omega), fb]
      walk_at "g"
      rw [v_is_instance (n := 13) (by decide) (by omega) oq.ht (op.dv hc) (by omega)]
      generalize hw : instB q p = bw at fj
      cases bw with
      | false =>
        walk_at "g"
        rw [v_join (n := 13) (by omega) op.ht oq.ht wp wq (by omega) (by omega)]
        walk_at "g"
        rw [v_alike hc oj oq (by omega), fj]
        exact k13_loop h (by omega) fun x10 => qq _ _ _ x10
      | true =>
        walk_at "g"
        rw [v_join (n := 13) (by omega) op.ht oq.ht wp wq (by omega) (by omega)]
        walk_at "g"
        rw [v_alike hc oj oq (by omega), fj]
        exact k13_loop h (by omega) fun x10 => qq _ _ _ x10

set_option maxHeartbeats 4000000 in
theorem law_k13_run {ns : List Int} {k : Nat} (hk : 70 ≤ k) : pcall PT k "law" [.scr ns] = some (.bl true, [some (.scr ns)]) := by
  obtain ⟨k, rfl, hk⟩ := lvl (k := 69) hk
  refine Ev.eq ?_
  have hz : sizeLine = 16777216 := by decide
  rw [pcall_eq F_law K_law R_law rfl]
  walk_at "g"
  obtain ⟨p, e, hp⟩ := v_pool (n := k) (by omega) ns
  rw [e]
  walk_at "g"
  try rw [hp.mut]
  walk_at "g"
  obtain ⟨p1, c, e1, hp1, hc⟩ := v_constructors (k := k) (by omega) hp
  rw [e1]
  walk_at "g"
  rw [v_rng ⟨by decide, by decide⟩]
  generalize rgVl 0 3 = L
  walk_at "w"
  have small : ∀ {n : Nat} {V : List Int} {t : Tm}, t.ok c = true → t.ht ≤ 3 → (∀ i ∈ t.occ, i ∈ V) → (∀ i ∈ V, 0 ≤ i ∧ i < n) → MtOk c n 3 t ∧ t.size ≤ 7 := fun {n V t} o hh v hV => by
    have a1 := Tm.size_le (fun z hz => (hc.ar z hz).2) o
    have p3 : 2 ^ t.ht ≤ 2 ^ 3 := Nat.pow_le_pow_right (by decide) hh
    have a2 := Tm.sbt_le (fun z hz => (hc.ar z hz).2) o
    have p2 : 2 ^ (t.ht - 1) ≤ 2 ^ 2 := Nat.pow_le_pow_right (by decide) (by omega)
    exact ⟨⟨o, fun i hi => hV i (v i hi), ⟨t.sbt, by omega, fun u hu => hu⟩, by omega⟩, by omega⟩
  refine ev_for (σ := Vl × Option Vl × Option Vl × Option Vl × Option Vl × Option Vl × Option Vl × Option Vl × Option Vl) (fun t => [some (.scr ns), some t.1, some (consV c), t.2.1, t.2.2.1, t.2.2.2.1, t.2.2.2.2.1, t.2.2.2.2.2.1, t.2.2.2.2.2.2.1, t.2.2.2.2.2.2.2.1, t.2.2.2.2.2.2.2.2]) (fun t => isPool t.1) (p1, none, none, none, none, none, none, none, none) rfl hp1 ?_ ?_
  · rintro x ⟨pl, x3, x4, x5, x6, x7, x8, x9, x10⟩ hx hpl K hK
    dsimp only at hpl hK ⊢
    obtain ⟨p2, j2, e2, hp2, j20, j21⟩ := v_draw (n := k) (by omega) hpl (m := 3) (by decide)
    walk_at "g"
    rw [e2]
    walk_at "g"
    rw [show 1 + j2 = ((1 + j2.toNat : Nat) : Int) by omega]
    obtain ⟨p3, P, e3, hp3, o3, h3, v3⟩ := v_law_term hc (V := [0, 1]) (by decide) (by decide) (1 + j2.toNat) (k := k) (by omega) (by omega) hp2
    rw [show pcall PT k _ [_, _, .lst [.int 0, .int 1], _] = _ from e3]
    walk_at "g"
    obtain ⟨p4, j4, e4, hp4, j40, j41⟩ := v_draw (n := k) (by omega) hp3 (m := 3) (by decide)
    rw [e4]
    walk_at "g"
    rw [show 1 + j4 = ((1 + j4.toNat : Nat) : Int) by omega]
    obtain ⟨p5, Q, e5, hp5, o5, h5, v5⟩ := v_law_term hc (V := [0, 1, 2]) (by decide) (by decide) (1 + j4.toNat) (k := k) (by omega) (by omega) hp4
    rw [show pcall PT k _ [_, _, .lst [.int 0, .int 1, .int 2], _] = _ from e5]
    walk_at "g"
    obtain ⟨p6, j6, e6, hp6, j60, j61⟩ := v_draw (n := k) (by omega) hp5 (m := 3) (by decide)
    rw [e6]
    walk_at "g"
    rw [show 1 + j6 = ((1 + j6.toNat : Nat) : Int) by omega]
    obtain ⟨p7, R, e7, hp7, o7, h7, v7⟩ := v_law_term hc (V := [0, 1]) (by decide) (by decide) (1 + j6.toNat) (k := k) (by omega) (by omega) hp6
    rw [show pcall PT k _ [_, _, .lst [.int 0, .int 1], _] = _ from e7]
    walk_at "g"
    obtain ⟨p8, d, e8, hp8, d0, d1⟩ := v_draw (n := k) (by omega) hp7 (m := 2) (by decide)
    rw [e8]
    obtain ⟨mP, _⟩ := small (n := 2) o3 (by omega) v3 (by decide)
    obtain ⟨mQ, sQ⟩ := small (n := 3) o5 (by omega) v5 (by decide)
    obtain ⟨mR, sR⟩ := small (n := 2) o7 (by omega) v7 (by decide)
    have go : ∀ (P' : Tm), MtOk c 2 6 P' → Ev (pk (pcall PT k) PT false (k13b.drop 4) kd_law (k13e (some (.scr ns)) (some p8) c (some x) P' Q R x7 x8 x9 x10) { nx := K, rt := fun v env => some (v, env.take 1), bk := fun env => pk (pcall PT k) PT false (fn_law.body.drop 3) kd_law env { nx := fun env => some (.non, env.take 1), rt := fun v env => some (v, env.take 1) }, ct := K }) (· = (.bl true, [some (.scr ns)])) := fun P' hP' =>
      k13_rest ⟨hc, hP', mQ, mR, by omega, sQ⟩ (by omega) fun x7 x8 x9 x10 => hK (p8, some x, some P'.v, some Q.v, some R.v, x7, x8, x9, x10) hp8
    walk_at "g"
    by_cases cd : d = 0
    · rw [decide_eq_true cd]
      walk_at "g"
      rw [pd_true (show [((Sum.inl 0 : L2.Key), R.v), ((Sum.inl 2 : L2.Key), Vl.int 1)].length ≤ 15 from (by show 2 ≤ 15; decide))]
      walk_at "g"
      rw [show pcall PT k _ [Q.v, .dic (mergeV [] [(Sum.inl 0, R.v), (Sum.inl 2, .int 1)])] = _ from v_replace (l := [(0, R), (2, .var 1)]) 3 (by omega) (by omega) (by omega)]
      refine go _ ?_
      have f : ∀ i ∈ Q.occ, (sb [(0, R), (2, .var 1)] i = R) ∨ sb [(0, R), (2, .var 1)] i = .var 1 := fun i hi => by
        have := v5 i hi
        simp only [List.mem_cons, List.not_mem_nil, or_false] at this
        rcases this with rfl | rfl | rfl
        · exact .inl rfl
        · exact .inr rfl
        · exact .inr rfl
      have hh := ht_subT (m := 2) (f := sb [(0, R), (2, .var 1)]) (t := Q) fun i hi => by
        rcases f i hi with e | e <;> rw [e]
        · omega
        · rw [Tm.ht]; omega
      refine ⟨ok_sub o5 fun i hi => ?_, fun j hj => ?_, ?_, by omega⟩
      · rcases f i hi with e | e <;> rw [e]
        · exact o7
        · rfl
      · rw [Tm.occ_sub] at hj
        obtain ⟨i, hi, hj⟩ := List.mem_flatMap.mp hj
        rcases f i hi with e | e <;> rw [e] at hj
        · exact mR.v j hj
        · rw [Tm.occ, List.mem_singleton] at hj; omega
      · obtain ⟨V, lV, hV⟩ := mR.cp
        exact mQ.cp.sub (M := 3) lV fun i hi u hu => by
          rcases f i hi with e | e <;> rw [e] at hu
          · exact hV u hu
          · rw [Tm.sbt] at hu; exact nomatch hu
    · rw [decide_eq_false cd]
      walk_at "w"
      exact go P ⟨mP.ok, mP.v, mP.cp.w (by decide), mP.ht⟩
  · rintro ⟨pl, x3, x4, x5, x6, x7, x8, x9, x10⟩ hpl
    walk_at "g"
    exact ⟨_, rfl, rfl⟩
theorem law_true (ns : List Int) (_ : ns.length ≤ 63) : W PT.F PT.G 200 (PySem.Str.ofString "law") [.scr ns] (fun _ => none) (fun _ _ _ => False) (fun d _ => d = .bl true) :=
  law_of wfT (by rw [K_law]; rfl) (law_k13_run (k := 200) (by decide))

end Mp
end
namespace Mp
/-! ## the program of the row -/
section
open PySem L2
def top (i : Nat) : Stmt := PySem.Challenge.pw_casefamilies_k13_whole_meets_and_joins_a.main.body.getD i (.Pass ⟨0, 0, 0, 0⟩)
theorem tr_distinct : trB nm_distinct defNames 200 (defScope (top 1)) (defBody (top 1)) = some fn_distinct.body := by kernel_rfl
theorem sc_distinct : FnScope nm_distinct (nm_distinct.take fn_distinct.ps) (defScope (top 1)) := ⟨rfl, rfl, rfl, by decide +kernel, rfl, by decide +kernel, by decide +kernel⟩
theorem tr_occurrences : trB nm_occurrences defNames 200 (defScope (top 2)) (defBody (top 2)) = some fn_occurrences.body := by kernel_rfl
theorem sc_occurrences : FnScope nm_occurrences (nm_occurrences.take fn_occurrences.ps) (defScope (top 2)) := ⟨rfl, rfl, rfl, by decide +kernel, rfl, by decide +kernel, by decide +kernel⟩
theorem tr_substituted : trB nm_substituted defNames 200 (defScope (top 3)) (defBody (top 3)) = some fn_substituted.body := by kernel_rfl
theorem sc_substituted : FnScope nm_substituted (nm_substituted.take fn_substituted.ps) (defScope (top 3)) := ⟨rfl, rfl, rfl, by decide +kernel, rfl, by decide +kernel, by decide +kernel⟩
theorem tr_shifted : trB nm_shifted defNames 200 (defScope (top 4)) (defBody (top 4)) = some fn_shifted.body := by kernel_rfl
theorem sc_shifted : FnScope nm_shifted (nm_shifted.take fn_shifted.ps) (defScope (top 4)) := ⟨rfl, rfl, rfl, by decide +kernel, rfl, by decide +kernel, by decide +kernel⟩
theorem tr_above : trB nm_above defNames 200 (defScope (top 5)) (defBody (top 5)) = some fn_above.body := by kernel_rfl
theorem sc_above : FnScope nm_above (nm_above.take fn_above.ps) (defScope (top 5)) := ⟨rfl, rfl, rfl, by decide +kernel, rfl, by decide +kernel, by decide +kernel⟩
theorem tr_tidied : trB nm_tidied defNames 200 (defScope (top 6)) (defBody (top 6)) = some fn_tidied.body := by kernel_rfl
theorem sc_tidied : FnScope nm_tidied (nm_tidied.take fn_tidied.ps) (defScope (top 6)) := ⟨rfl, rfl, rfl, by decide +kernel, rfl, by decide +kernel, by decide +kernel⟩
theorem tr_write_term : trB nm_write_term defNames 200 (defScope (top 7)) (defBody (top 7)) = some fn_write_term.body := by kernel_rfl
theorem sc_write_term : FnScope nm_write_term (nm_write_term.take fn_write_term.ps) (defScope (top 7)) := ⟨rfl, rfl, rfl, by decide +kernel, rfl, by decide +kernel, by decide +kernel⟩
theorem tr_resolved : trB nm_resolved defNames 200 (defScope (top 9)) (defBody (top 9)) = some fn_resolved.body := by kernel_rfl
theorem sc_resolved : FnScope nm_resolved (nm_resolved.take fn_resolved.ps) (defScope (top 9)) := ⟨rfl, rfl, rfl, by decide +kernel, rfl, by decide +kernel, by decide +kernel⟩
theorem tr_occurs : trB nm_occurs defNames 200 (defScope (top 10)) (defBody (top 10)) = some fn_occurs.body := by kernel_rfl
theorem sc_occurs : FnScope nm_occurs (nm_occurs.take fn_occurs.ps) (defScope (top 10)) := ⟨rfl, rfl, rfl, by decide +kernel, rfl, by decide +kernel, by decide +kernel⟩
theorem tr_settled : trB nm_settled defNames 200 (defScope (top 11)) (defBody (top 11)) = some fn_settled.body := by kernel_rfl
theorem sc_settled : FnScope nm_settled (nm_settled.take fn_settled.ps) (defScope (top 11)) := ⟨rfl, rfl, rfl, by decide +kernel, rfl, by decide +kernel, by decide +kernel⟩
theorem tr_unifier : trB nm_unifier defNames 200 (defScope (top 12)) (defBody (top 12)) = some fn_unifier.body := by kernel_rfl
theorem sc_unifier : FnScope nm_unifier (nm_unifier.take fn_unifier.ps) (defScope (top 12)) := ⟨rfl, rfl, rfl, by decide +kernel, rfl, by decide +kernel, by decide +kernel⟩
theorem tr_match : trB nm_match defNames 200 (defScope (top 13)) (defBody (top 13)) = some fn_match.body := by kernel_rfl
theorem sc_match : FnScope nm_match (nm_match.take fn_match.ps) (defScope (top 13)) := ⟨rfl, rfl, rfl, by decide +kernel, rfl, by decide +kernel, by decide +kernel⟩
theorem tr_meet : trB nm_meet defNames 200 (defScope (top 14)) (defBody (top 14)) = some fn_meet.body := by kernel_rfl
theorem sc_meet : FnScope nm_meet (nm_meet.take fn_meet.ps) (defScope (top 14)) := ⟨rfl, rfl, rfl, by decide +kernel, rfl, by decide +kernel, by decide +kernel⟩
theorem tr_joined : trB nm_joined defNames 200 (defScope (top 15)) (defBody (top 15)) = some fn_joined.body := by kernel_rfl
theorem sc_joined : FnScope nm_joined (nm_joined.take fn_joined.ps) (defScope (top 15)) := ⟨rfl, rfl, rfl, by decide +kernel, rfl, by decide +kernel, by decide +kernel⟩
theorem tr_join : trB nm_join defNames 200 (defScope (top 16)) (defBody (top 16)) = some fn_join.body := by kernel_rfl
theorem sc_join : FnScope nm_join (nm_join.take fn_join.ps) (defScope (top 16)) := ⟨rfl, rfl, rfl, by decide +kernel, rfl, by decide +kernel, by decide +kernel⟩
theorem tr_same_up_to_names : trB nm_same_up_to_names defNames 200 (defScope (top 17)) (defBody (top 17)) = some fn_same_up_to_names.body := by kernel_rfl
theorem sc_same_up_to_names : FnScope nm_same_up_to_names (nm_same_up_to_names.take fn_same_up_to_names.ps) (defScope (top 17)) := ⟨rfl, rfl, rfl, by decide +kernel, rfl, by decide +kernel, by decide +kernel⟩
theorem tr__law_same : trB nm__law_same defNames 200 (defScope (top 19)) (defBody (top 19)) = some fn__law_same.body := by kernel_rfl
theorem sc__law_same : FnScope nm__law_same (nm__law_same.take fn__law_same.ps) (defScope (top 19)) := ⟨rfl, rfl, rfl, by decide +kernel, rfl, by decide +kernel, by decide +kernel⟩
theorem tr__law_is_integer : trB nm__law_is_integer defNames 200 (defScope (top 20)) (defBody (top 20)) = some fn__law_is_integer.body := by kernel_rfl
theorem sc__law_is_integer : FnScope nm__law_is_integer (nm__law_is_integer.take fn__law_is_integer.ps) (defScope (top 20)) := ⟨rfl, rfl, rfl, by decide +kernel, rfl, by decide +kernel, by decide +kernel⟩
theorem tr__law_pool : trB nm__law_pool defNames 200 (defScope (top 21)) (defBody (top 21)) = some fn__law_pool.body := by kernel_rfl
theorem sc__law_pool : FnScope nm__law_pool (nm__law_pool.take fn__law_pool.ps) (defScope (top 21)) := ⟨rfl, rfl, rfl, by decide +kernel, rfl, by decide +kernel, by decide +kernel⟩
theorem tr__law_spread : trB nm__law_spread defNames 200 (defScope (top 22)) (defBody (top 22)) = some fn__law_spread.body := by kernel_rfl
theorem sc__law_spread : FnScope nm__law_spread (nm__law_spread.take fn__law_spread.ps) (defScope (top 22)) := ⟨rfl, rfl, rfl, by decide +kernel, rfl, by decide +kernel, by decide +kernel⟩
theorem tr__law_draw : trB nm__law_draw defNames 200 (defScope (top 23)) (defBody (top 23)) = some fn__law_draw.body := by kernel_rfl
theorem sc__law_draw : FnScope nm__law_draw (nm__law_draw.take fn__law_draw.ps) (defScope (top 23)) := ⟨rfl, rfl, rfl, by decide +kernel, rfl, by decide +kernel, by decide +kernel⟩
theorem tr__law_pick : trB nm__law_pick defNames 200 (defScope (top 24)) (defBody (top 24)) = some fn__law_pick.body := by kernel_rfl
theorem sc__law_pick : FnScope nm__law_pick (nm__law_pick.take fn__law_pick.ps) (defScope (top 24)) := ⟨rfl, rfl, rfl, by decide +kernel, rfl, by decide +kernel, by decide +kernel⟩
theorem tr__law_spelled : trB nm__law_spelled defNames 200 (defScope (top 25)) (defBody (top 25)) = some fn__law_spelled.body := by kernel_rfl
theorem sc__law_spelled : FnScope nm__law_spelled (nm__law_spelled.take fn__law_spelled.ps) (defScope (top 25)) := ⟨rfl, rfl, rfl, by decide +kernel, rfl, by decide +kernel, by decide +kernel⟩
theorem tr__law_words : trB nm__law_words defNames 200 (defScope (top 26)) (defBody (top 26)) = some fn__law_words.body := by kernel_rfl
theorem sc__law_words : FnScope nm__law_words (nm__law_words.take fn__law_words.ps) (defScope (top 26)) := ⟨rfl, rfl, rfl, by decide +kernel, rfl, by decide +kernel, by decide +kernel⟩
theorem tr__law_constructors : trB nm__law_constructors defNames 200 (defScope (top 27)) (defBody (top 27)) = some fn__law_constructors.body := by kernel_rfl
theorem sc__law_constructors : FnScope nm__law_constructors (nm__law_constructors.take fn__law_constructors.ps) (defScope (top 27)) := ⟨rfl, rfl, rfl, by decide +kernel, rfl, by decide +kernel, by decide +kernel⟩
theorem tr__law_term : trB nm__law_term defNames 200 (defScope (top 28)) (defBody (top 28)) = some fn__law_term.body := by kernel_rfl
theorem sc__law_term : FnScope nm__law_term (nm__law_term.take fn__law_term.ps) (defScope (top 28)) := ⟨rfl, rfl, rfl, by decide +kernel, rfl, by decide +kernel, by decide +kernel⟩
theorem tr__law_occurrences : trB nm__law_occurrences defNames 200 (defScope (top 29)) (defBody (top 29)) = some fn__law_occurrences.body := by kernel_rfl
theorem sc__law_occurrences : FnScope nm__law_occurrences (nm__law_occurrences.take fn__law_occurrences.ps) (defScope (top 29)) := ⟨rfl, rfl, rfl, by decide +kernel, rfl, by decide +kernel, by decide +kernel⟩
theorem tr__law_unlike : trB nm__law_unlike defNames 200 (defScope (top 30)) (defBody (top 30)) = some fn__law_unlike.body := by kernel_rfl
theorem sc__law_unlike : FnScope nm__law_unlike (nm__law_unlike.take fn__law_unlike.ps) (defScope (top 30)) := ⟨rfl, rfl, rfl, by decide +kernel, rfl, by decide +kernel, by decide +kernel⟩
theorem tr__law_numbers : trB nm__law_numbers defNames 200 (defScope (top 31)) (defBody (top 31)) = some fn__law_numbers.body := by kernel_rfl
theorem sc__law_numbers : FnScope nm__law_numbers (nm__law_numbers.take fn__law_numbers.ps) (defScope (top 31)) := ⟨rfl, rfl, rfl, by decide +kernel, rfl, by decide +kernel, by decide +kernel⟩
theorem tr__law_replace : trB nm__law_replace defNames 200 (defScope (top 32)) (defBody (top 32)) = some fn__law_replace.body := by kernel_rfl
theorem sc__law_replace : FnScope nm__law_replace (nm__law_replace.take fn__law_replace.ps) (defScope (top 32)) := ⟨rfl, rfl, rfl, by decide +kernel, rfl, by decide +kernel, by decide +kernel⟩
theorem tr__law_renumbered : trB nm__law_renumbered defNames 200 (defScope (top 33)) (defBody (top 33)) = some fn__law_renumbered.body := by kernel_rfl
theorem sc__law_renumbered : FnScope nm__law_renumbered (nm__law_renumbered.take fn__law_renumbered.ps) (defScope (top 33)) := ⟨rfl, rfl, rfl, by decide +kernel, rfl, by decide +kernel, by decide +kernel⟩
theorem tr__law_moved : trB nm__law_moved defNames 200 (defScope (top 34)) (defBody (top 34)) = some fn__law_moved.body := by kernel_rfl
theorem sc__law_moved : FnScope nm__law_moved (nm__law_moved.take fn__law_moved.ps) (defScope (top 34)) := ⟨rfl, rfl, rfl, by decide +kernel, rfl, by decide +kernel, by decide +kernel⟩
theorem tr__law_taken : trB nm__law_taken defNames 200 (defScope (top 35)) (defBody (top 35)) = some fn__law_taken.body := by kernel_rfl
theorem sc__law_taken : FnScope nm__law_taken (nm__law_taken.take fn__law_taken.ps) (defScope (top 35)) := ⟨rfl, rfl, rfl, by decide +kernel, rfl, by decide +kernel, by decide +kernel⟩
theorem tr__law_is_instance : trB nm__law_is_instance defNames 200 (defScope (top 36)) (defBody (top 36)) = some fn__law_is_instance.body := by kernel_rfl
theorem sc__law_is_instance : FnScope nm__law_is_instance (nm__law_is_instance.take fn__law_is_instance.ps) (defScope (top 36)) := ⟨rfl, rfl, rfl, by decide +kernel, rfl, by decide +kernel, by decide +kernel⟩
theorem tr__law_alike : trB nm__law_alike defNames 200 (defScope (top 37)) (defBody (top 37)) = some fn__law_alike.body := by kernel_rfl
theorem sc__law_alike : FnScope nm__law_alike (nm__law_alike.take fn__law_alike.ps) (defScope (top 37)) := ⟨rfl, rfl, rfl, by decide +kernel, rfl, by decide +kernel, by decide +kernel⟩
theorem tr__law_meet_of : trB nm__law_meet_of defNames 200 (defScope (top 38)) (defBody (top 38)) = some fn__law_meet_of.body := by kernel_rfl
theorem sc__law_meet_of : FnScope nm__law_meet_of (nm__law_meet_of.take fn__law_meet_of.ps) (defScope (top 38)) := ⟨rfl, rfl, rfl, by decide +kernel, rfl, by decide +kernel, by decide +kernel⟩
theorem tr_law : trB nm_law defNames 200 (defScope (top 39)) (defBody (top 39)) = some fn_law.body := by kernel_rfl
theorem sc_law : FnScope nm_law (nm_law.take fn_law.ps) (defScope (top 39)) := ⟨rfl, rfl, rfl, by decide +kernel, rfl, by decide +kernel, by decide +kernel⟩
set_option maxHeartbeats 0 in
theorem all_mk {w : World} {K : PySem.W.Frag} {h : Heap} {mg : Str → Option Value} {fa f1 f2 f3 f4 f5 f6 f7 f9 f10 f11 f12 f13 f14 f15 f16 f17 f19 f20 f21 f22 f23 f24 f25 f26 f27 f28 f29 f30 f31 f32 f33 f34 f35 f36 f37 f38 f39 : Addr} (X : K.In h) (G : h.Ns mainGlobals mg) (hfa : mg "law" = some (.ref fa))
    {od1 an1 od2 an2 od3 an3 od4 an4 od5 an5 od6 an6 od7 an7 od9 an9 od10 an10 od11 an11 od12 an12 od13 an13 od14 an14 od15 an15 od16 an16 od17 an17 od19 an19 od20 an20 od21 an21 od22 an22 od23 an23 od24 an24 od25 an25 od26 an26 od27 an27 od28 an28 od29 an29 od30 an30 od31 an31 od32 an32 od33 an33 od34 an34 od35 an35 od36 an36 od37 an37 od38 an38 od39 an39 : Option Addr} {sl1 sl2 sl3 sl4 sl5 sl6 sl7 sl9 sl10 sl11 sl12 sl13 sl14 sl15 sl16 sl17 sl19 sl20 sl21 sl22 sl23 sl24 sl25 sl26 sl27 sl28 sl29 sl30 sl31 sl32 sl33 sl34 sl35 sl36 sl37 sl38 sl39 : Array (Option Value)} {oc1 kV1 dc1 pm1 cd1 ct1 oc2 kV2 dc2 pm2 cd2 ct2 oc3 kV3 dc3 pm3 cd3 ct3 oc4 kV4 dc4 pm4 cd4 ct4 oc5 kV5 dc5 pm5 cd5 ct5 oc6 kV6 dc6 pm6 cd6 ct6 oc7 kV7 dc7 pm7 cd7 ct7 oc9 kV9 dc9 pm9 cd9 ct9 oc10 kV10 dc10 pm10 cd10 ct10 oc11 kV11 dc11 pm11 cd11 ct11 oc12 kV12 dc12 pm12 cd12 ct12 oc13 kV13 dc13 pm13 cd13 ct13 oc14 kV14 dc14 pm14 cd14 ct14 oc15 kV15 dc15 pm15 cd15 ct15 oc16 kV16 dc16 pm16 cd16 ct16 oc17 kV17 dc17 pm17 cd17 ct17 oc19 kV19 dc19 pm19 cd19 ct19 oc20 kV20 dc20 pm20 cd20 ct20 oc21 kV21 dc21 pm21 cd21 ct21 oc22 kV22 dc22 pm22 cd22 ct22 oc23 kV23 dc23 pm23 cd23 ct23 oc24 kV24 dc24 pm24 cd24 ct24 oc25 kV25 dc25 pm25 cd25 ct25 oc26 kV26 dc26 pm26 cd26 ct26 oc27 kV27 dc27 pm27 cd27 ct27 oc28 kV28 dc28 pm28 cd28 ct28 oc29 kV29 dc29 pm29 cd29 ct29 oc30 kV30 dc30 pm30 cd30 ct30 oc31 kV31 dc31 pm31 cd31 ct31 oc32 kV32 dc32 pm32 cd32 ct32 oc33 kV33 dc33 pm33 cd33 ct33 oc34 kV34 dc34 pm34 cd34 ct34 oc35 kV35 dc35 pm35 cd35 ct35 oc36 kV36 dc36 pm36 cd36 ct36 oc37 kV37 dc37 pm37 cd37 ct37 oc38 kV38 dc38 pm38 cd38 ct38 oc39 kV39 dc39 pm39 cd39 ct39 : Value}
    (a1 : PySem.W.nsIn K mainGlobals "distinct" = some (some (.ref f1))) (l1 : K.lookup f1 = some ⟨oc1, od1, .func (PySem.W.fnOf "distinct" "distinct" (defArgs (top 1)) (defBody (top 1)) (defScope (top 1)) .none kV1 dc1 pm1 an1 cd1 ct1), sl1⟩) (c1 : PySem.W.codeIn K cd1 "distinct" = true) (k1 : PySem.W.keepIn K (.ref f1) = true)
    (a2 : PySem.W.nsIn K mainGlobals "occurrences" = some (some (.ref f2))) (l2 : K.lookup f2 = some ⟨oc2, od2, .func (PySem.W.fnOf "occurrences" "occurrences" (defArgs (top 2)) (defBody (top 2)) (defScope (top 2)) .none kV2 dc2 pm2 an2 cd2 ct2), sl2⟩) (c2 : PySem.W.codeIn K cd2 "occurrences" = true) (k2 : PySem.W.keepIn K (.ref f2) = true)
    (a3 : PySem.W.nsIn K mainGlobals "substituted" = some (some (.ref f3))) (l3 : K.lookup f3 = some ⟨oc3, od3, .func (PySem.W.fnOf "substituted" "substituted" (defArgs (top 3)) (defBody (top 3)) (defScope (top 3)) .none kV3 dc3 pm3 an3 cd3 ct3), sl3⟩) (c3 : PySem.W.codeIn K cd3 "substituted" = true) (k3 : PySem.W.keepIn K (.ref f3) = true)
    (a4 : PySem.W.nsIn K mainGlobals "shifted" = some (some (.ref f4))) (l4 : K.lookup f4 = some ⟨oc4, od4, .func (PySem.W.fnOf "shifted" "shifted" (defArgs (top 4)) (defBody (top 4)) (defScope (top 4)) .none kV4 dc4 pm4 an4 cd4 ct4), sl4⟩) (c4 : PySem.W.codeIn K cd4 "shifted" = true) (k4 : PySem.W.keepIn K (.ref f4) = true)
    (a5 : PySem.W.nsIn K mainGlobals "above" = some (some (.ref f5))) (l5 : K.lookup f5 = some ⟨oc5, od5, .func (PySem.W.fnOf "above" "above" (defArgs (top 5)) (defBody (top 5)) (defScope (top 5)) .none kV5 dc5 pm5 an5 cd5 ct5), sl5⟩) (c5 : PySem.W.codeIn K cd5 "above" = true) (k5 : PySem.W.keepIn K (.ref f5) = true)
    (a6 : PySem.W.nsIn K mainGlobals "tidied" = some (some (.ref f6))) (l6 : K.lookup f6 = some ⟨oc6, od6, .func (PySem.W.fnOf "tidied" "tidied" (defArgs (top 6)) (defBody (top 6)) (defScope (top 6)) .none kV6 dc6 pm6 an6 cd6 ct6), sl6⟩) (c6 : PySem.W.codeIn K cd6 "tidied" = true) (k6 : PySem.W.keepIn K (.ref f6) = true)
    (a7 : PySem.W.nsIn K mainGlobals "write_term" = some (some (.ref f7))) (l7 : K.lookup f7 = some ⟨oc7, od7, .func (PySem.W.fnOf "write_term" "write_term" (defArgs (top 7)) (defBody (top 7)) (defScope (top 7)) .none kV7 dc7 pm7 an7 cd7 ct7), sl7⟩) (c7 : PySem.W.codeIn K cd7 "write_term" = true) (k7 : PySem.W.keepIn K (.ref f7) = true)
    (a9 : PySem.W.nsIn K mainGlobals "resolved" = some (some (.ref f9))) (l9 : K.lookup f9 = some ⟨oc9, od9, .func (PySem.W.fnOf "resolved" "resolved" (defArgs (top 9)) (defBody (top 9)) (defScope (top 9)) .none kV9 dc9 pm9 an9 cd9 ct9), sl9⟩) (c9 : PySem.W.codeIn K cd9 "resolved" = true) (k9 : PySem.W.keepIn K (.ref f9) = true)
    (a10 : PySem.W.nsIn K mainGlobals "occurs" = some (some (.ref f10))) (l10 : K.lookup f10 = some ⟨oc10, od10, .func (PySem.W.fnOf "occurs" "occurs" (defArgs (top 10)) (defBody (top 10)) (defScope (top 10)) .none kV10 dc10 pm10 an10 cd10 ct10), sl10⟩) (c10 : PySem.W.codeIn K cd10 "occurs" = true) (k10 : PySem.W.keepIn K (.ref f10) = true)
    (a11 : PySem.W.nsIn K mainGlobals "settled" = some (some (.ref f11))) (l11 : K.lookup f11 = some ⟨oc11, od11, .func (PySem.W.fnOf "settled" "settled" (defArgs (top 11)) (defBody (top 11)) (defScope (top 11)) .none kV11 dc11 pm11 an11 cd11 ct11), sl11⟩) (c11 : PySem.W.codeIn K cd11 "settled" = true) (k11 : PySem.W.keepIn K (.ref f11) = true)
    (a12 : PySem.W.nsIn K mainGlobals "unifier" = some (some (.ref f12))) (l12 : K.lookup f12 = some ⟨oc12, od12, .func (PySem.W.fnOf "unifier" "unifier" (defArgs (top 12)) (defBody (top 12)) (defScope (top 12)) .none kV12 dc12 pm12 an12 cd12 ct12), sl12⟩) (c12 : PySem.W.codeIn K cd12 "unifier" = true) (k12 : PySem.W.keepIn K (.ref f12) = true)
    (a13 : PySem.W.nsIn K mainGlobals "match" = some (some (.ref f13))) (l13 : K.lookup f13 = some ⟨oc13, od13, .func (PySem.W.fnOf "match" "match" (defArgs (top 13)) (defBody (top 13)) (defScope (top 13)) .none kV13 dc13 pm13 an13 cd13 ct13), sl13⟩) (c13 : PySem.W.codeIn K cd13 "match" = true) (k13 : PySem.W.keepIn K (.ref f13) = true)
    (a14 : PySem.W.nsIn K mainGlobals "meet" = some (some (.ref f14))) (l14 : K.lookup f14 = some ⟨oc14, od14, .func (PySem.W.fnOf "meet" "meet" (defArgs (top 14)) (defBody (top 14)) (defScope (top 14)) .none kV14 dc14 pm14 an14 cd14 ct14), sl14⟩) (c14 : PySem.W.codeIn K cd14 "meet" = true) (k14 : PySem.W.keepIn K (.ref f14) = true)
    (a15 : PySem.W.nsIn K mainGlobals "joined" = some (some (.ref f15))) (l15 : K.lookup f15 = some ⟨oc15, od15, .func (PySem.W.fnOf "joined" "joined" (defArgs (top 15)) (defBody (top 15)) (defScope (top 15)) .none kV15 dc15 pm15 an15 cd15 ct15), sl15⟩) (c15 : PySem.W.codeIn K cd15 "joined" = true) (k15 : PySem.W.keepIn K (.ref f15) = true)
    (a16 : PySem.W.nsIn K mainGlobals "join" = some (some (.ref f16))) (l16 : K.lookup f16 = some ⟨oc16, od16, .func (PySem.W.fnOf "join" "join" (defArgs (top 16)) (defBody (top 16)) (defScope (top 16)) .none kV16 dc16 pm16 an16 cd16 ct16), sl16⟩) (c16 : PySem.W.codeIn K cd16 "join" = true) (k16 : PySem.W.keepIn K (.ref f16) = true)
    (a17 : PySem.W.nsIn K mainGlobals "same_up_to_names" = some (some (.ref f17))) (l17 : K.lookup f17 = some ⟨oc17, od17, .func (PySem.W.fnOf "same_up_to_names" "same_up_to_names" (defArgs (top 17)) (defBody (top 17)) (defScope (top 17)) .none kV17 dc17 pm17 an17 cd17 ct17), sl17⟩) (c17 : PySem.W.codeIn K cd17 "same_up_to_names" = true) (k17 : PySem.W.keepIn K (.ref f17) = true)
    (a19 : PySem.W.nsIn K mainGlobals "_law_same" = some (some (.ref f19))) (l19 : K.lookup f19 = some ⟨oc19, od19, .func (PySem.W.fnOf "_law_same" "_law_same" (defArgs (top 19)) (defBody (top 19)) (defScope (top 19)) .none kV19 dc19 pm19 an19 cd19 ct19), sl19⟩) (c19 : PySem.W.codeIn K cd19 "_law_same" = true) (k19 : PySem.W.keepIn K (.ref f19) = true)
    (a20 : PySem.W.nsIn K mainGlobals "_law_is_integer" = some (some (.ref f20))) (l20 : K.lookup f20 = some ⟨oc20, od20, .func (PySem.W.fnOf "_law_is_integer" "_law_is_integer" (defArgs (top 20)) (defBody (top 20)) (defScope (top 20)) .none kV20 dc20 pm20 an20 cd20 ct20), sl20⟩) (c20 : PySem.W.codeIn K cd20 "_law_is_integer" = true) (k20 : PySem.W.keepIn K (.ref f20) = true)
    (a21 : PySem.W.nsIn K mainGlobals "_law_pool" = some (some (.ref f21))) (l21 : K.lookup f21 = some ⟨oc21, od21, .func (PySem.W.fnOf "_law_pool" "_law_pool" (defArgs (top 21)) (defBody (top 21)) (defScope (top 21)) .none kV21 dc21 pm21 an21 cd21 ct21), sl21⟩) (c21 : PySem.W.codeIn K cd21 "_law_pool" = true) (k21 : PySem.W.keepIn K (.ref f21) = true)
    (a22 : PySem.W.nsIn K mainGlobals "_law_spread" = some (some (.ref f22))) (l22 : K.lookup f22 = some ⟨oc22, od22, .func (PySem.W.fnOf "_law_spread" "_law_spread" (defArgs (top 22)) (defBody (top 22)) (defScope (top 22)) .none kV22 dc22 pm22 an22 cd22 ct22), sl22⟩) (c22 : PySem.W.codeIn K cd22 "_law_spread" = true) (k22 : PySem.W.keepIn K (.ref f22) = true)
    (a23 : PySem.W.nsIn K mainGlobals "_law_draw" = some (some (.ref f23))) (l23 : K.lookup f23 = some ⟨oc23, od23, .func (PySem.W.fnOf "_law_draw" "_law_draw" (defArgs (top 23)) (defBody (top 23)) (defScope (top 23)) .none kV23 dc23 pm23 an23 cd23 ct23), sl23⟩) (c23 : PySem.W.codeIn K cd23 "_law_draw" = true) (k23 : PySem.W.keepIn K (.ref f23) = true)
    (a24 : PySem.W.nsIn K mainGlobals "_law_pick" = some (some (.ref f24))) (l24 : K.lookup f24 = some ⟨oc24, od24, .func (PySem.W.fnOf "_law_pick" "_law_pick" (defArgs (top 24)) (defBody (top 24)) (defScope (top 24)) .none kV24 dc24 pm24 an24 cd24 ct24), sl24⟩) (c24 : PySem.W.codeIn K cd24 "_law_pick" = true) (k24 : PySem.W.keepIn K (.ref f24) = true)
    (a25 : PySem.W.nsIn K mainGlobals "_law_spelled" = some (some (.ref f25))) (l25 : K.lookup f25 = some ⟨oc25, od25, .func (PySem.W.fnOf "_law_spelled" "_law_spelled" (defArgs (top 25)) (defBody (top 25)) (defScope (top 25)) .none kV25 dc25 pm25 an25 cd25 ct25), sl25⟩) (c25 : PySem.W.codeIn K cd25 "_law_spelled" = true) (k25 : PySem.W.keepIn K (.ref f25) = true)
    (a26 : PySem.W.nsIn K mainGlobals "_law_words" = some (some (.ref f26))) (l26 : K.lookup f26 = some ⟨oc26, od26, .func (PySem.W.fnOf "_law_words" "_law_words" (defArgs (top 26)) (defBody (top 26)) (defScope (top 26)) .none kV26 dc26 pm26 an26 cd26 ct26), sl26⟩) (c26 : PySem.W.codeIn K cd26 "_law_words" = true) (k26 : PySem.W.keepIn K (.ref f26) = true)
    (a27 : PySem.W.nsIn K mainGlobals "_law_constructors" = some (some (.ref f27))) (l27 : K.lookup f27 = some ⟨oc27, od27, .func (PySem.W.fnOf "_law_constructors" "_law_constructors" (defArgs (top 27)) (defBody (top 27)) (defScope (top 27)) .none kV27 dc27 pm27 an27 cd27 ct27), sl27⟩) (c27 : PySem.W.codeIn K cd27 "_law_constructors" = true) (k27 : PySem.W.keepIn K (.ref f27) = true)
    (a28 : PySem.W.nsIn K mainGlobals "_law_term" = some (some (.ref f28))) (l28 : K.lookup f28 = some ⟨oc28, od28, .func (PySem.W.fnOf "_law_term" "_law_term" (defArgs (top 28)) (defBody (top 28)) (defScope (top 28)) .none kV28 dc28 pm28 an28 cd28 ct28), sl28⟩) (c28 : PySem.W.codeIn K cd28 "_law_term" = true) (k28 : PySem.W.keepIn K (.ref f28) = true)
    (a29 : PySem.W.nsIn K mainGlobals "_law_occurrences" = some (some (.ref f29))) (l29 : K.lookup f29 = some ⟨oc29, od29, .func (PySem.W.fnOf "_law_occurrences" "_law_occurrences" (defArgs (top 29)) (defBody (top 29)) (defScope (top 29)) .none kV29 dc29 pm29 an29 cd29 ct29), sl29⟩) (c29 : PySem.W.codeIn K cd29 "_law_occurrences" = true) (k29 : PySem.W.keepIn K (.ref f29) = true)
    (a30 : PySem.W.nsIn K mainGlobals "_law_unlike" = some (some (.ref f30))) (l30 : K.lookup f30 = some ⟨oc30, od30, .func (PySem.W.fnOf "_law_unlike" "_law_unlike" (defArgs (top 30)) (defBody (top 30)) (defScope (top 30)) .none kV30 dc30 pm30 an30 cd30 ct30), sl30⟩) (c30 : PySem.W.codeIn K cd30 "_law_unlike" = true) (k30 : PySem.W.keepIn K (.ref f30) = true)
    (a31 : PySem.W.nsIn K mainGlobals "_law_numbers" = some (some (.ref f31))) (l31 : K.lookup f31 = some ⟨oc31, od31, .func (PySem.W.fnOf "_law_numbers" "_law_numbers" (defArgs (top 31)) (defBody (top 31)) (defScope (top 31)) .none kV31 dc31 pm31 an31 cd31 ct31), sl31⟩) (c31 : PySem.W.codeIn K cd31 "_law_numbers" = true) (k31 : PySem.W.keepIn K (.ref f31) = true)
    (a32 : PySem.W.nsIn K mainGlobals "_law_replace" = some (some (.ref f32))) (l32 : K.lookup f32 = some ⟨oc32, od32, .func (PySem.W.fnOf "_law_replace" "_law_replace" (defArgs (top 32)) (defBody (top 32)) (defScope (top 32)) .none kV32 dc32 pm32 an32 cd32 ct32), sl32⟩) (c32 : PySem.W.codeIn K cd32 "_law_replace" = true) (k32 : PySem.W.keepIn K (.ref f32) = true)
    (a33 : PySem.W.nsIn K mainGlobals "_law_renumbered" = some (some (.ref f33))) (l33 : K.lookup f33 = some ⟨oc33, od33, .func (PySem.W.fnOf "_law_renumbered" "_law_renumbered" (defArgs (top 33)) (defBody (top 33)) (defScope (top 33)) .none kV33 dc33 pm33 an33 cd33 ct33), sl33⟩) (c33 : PySem.W.codeIn K cd33 "_law_renumbered" = true) (k33 : PySem.W.keepIn K (.ref f33) = true)
    (a34 : PySem.W.nsIn K mainGlobals "_law_moved" = some (some (.ref f34))) (l34 : K.lookup f34 = some ⟨oc34, od34, .func (PySem.W.fnOf "_law_moved" "_law_moved" (defArgs (top 34)) (defBody (top 34)) (defScope (top 34)) .none kV34 dc34 pm34 an34 cd34 ct34), sl34⟩) (c34 : PySem.W.codeIn K cd34 "_law_moved" = true) (k34 : PySem.W.keepIn K (.ref f34) = true)
    (a35 : PySem.W.nsIn K mainGlobals "_law_taken" = some (some (.ref f35))) (l35 : K.lookup f35 = some ⟨oc35, od35, .func (PySem.W.fnOf "_law_taken" "_law_taken" (defArgs (top 35)) (defBody (top 35)) (defScope (top 35)) .none kV35 dc35 pm35 an35 cd35 ct35), sl35⟩) (c35 : PySem.W.codeIn K cd35 "_law_taken" = true) (k35 : PySem.W.keepIn K (.ref f35) = true)
    (a36 : PySem.W.nsIn K mainGlobals "_law_is_instance" = some (some (.ref f36))) (l36 : K.lookup f36 = some ⟨oc36, od36, .func (PySem.W.fnOf "_law_is_instance" "_law_is_instance" (defArgs (top 36)) (defBody (top 36)) (defScope (top 36)) .none kV36 dc36 pm36 an36 cd36 ct36), sl36⟩) (c36 : PySem.W.codeIn K cd36 "_law_is_instance" = true) (k36 : PySem.W.keepIn K (.ref f36) = true)
    (a37 : PySem.W.nsIn K mainGlobals "_law_alike" = some (some (.ref f37))) (l37 : K.lookup f37 = some ⟨oc37, od37, .func (PySem.W.fnOf "_law_alike" "_law_alike" (defArgs (top 37)) (defBody (top 37)) (defScope (top 37)) .none kV37 dc37 pm37 an37 cd37 ct37), sl37⟩) (c37 : PySem.W.codeIn K cd37 "_law_alike" = true) (k37 : PySem.W.keepIn K (.ref f37) = true)
    (a38 : PySem.W.nsIn K mainGlobals "_law_meet_of" = some (some (.ref f38))) (l38 : K.lookup f38 = some ⟨oc38, od38, .func (PySem.W.fnOf "_law_meet_of" "_law_meet_of" (defArgs (top 38)) (defBody (top 38)) (defScope (top 38)) .none kV38 dc38 pm38 an38 cd38 ct38), sl38⟩) (c38 : PySem.W.codeIn K cd38 "_law_meet_of" = true) (k38 : PySem.W.keepIn K (.ref f38) = true)
    (a39 : PySem.W.nsIn K mainGlobals "law" = some (some (.ref f39))) (l39 : K.lookup f39 = some ⟨oc39, od39, .func (PySem.W.fnOf "law" "law" (defArgs (top 39)) (defBody (top 39)) (defScope (top 39)) .none kV39 dc39 pm39 an39 cd39 ct39), sl39⟩) (c39 : PySem.W.codeIn K cd39 "law" = true) (k39 : PySem.W.keepIn K (.ref f39) = true)
    (z0 : PySem.W.nsIn K mainGlobals "len" = some none)
    (z1 : PySem.W.nsIn K mainGlobals "int" = some none)
    (z2 : PySem.W.nsIn K mainGlobals "tuple" = some none)
    (z3 : PySem.W.nsIn K mainGlobals "list" = some none)
    (z4 : PySem.W.nsIn K mainGlobals "sum" = some none)
    (z5 : PySem.W.nsIn K mainGlobals "max" = some none)
    (z6 : PySem.W.nsIn K mainGlobals "min" = some none)
    (z7 : PySem.W.nsIn K mainGlobals "any" = some none)
    (z8 : PySem.W.nsIn K mainGlobals "all" = some none)
    (z9 : PySem.W.nsIn K mainGlobals "repr" = some none)
    (z10 : PySem.W.nsIn K mainGlobals "abs" = some none)
    (z11 : PySem.W.nsIn K mainGlobals "str" = some none)
    (z12 : PySem.W.nsIn K mainGlobals "isinstance" = some none)
    (z13 : PySem.W.nsIn K mainGlobals "bool" = some none)
    (z14 : PySem.W.nsIn K mainGlobals "dict" = some none)
    (z15 : PySem.W.nsIn K mainGlobals "range" = some none)
    (z16 : PySem.W.nsIn K mainGlobals "zip" = some none)
    (z17 : PySem.W.nsIn K mainGlobals "set" = some none)
    (z18 : PySem.W.nsIn K mainGlobals "sorted" = some none) :
    (∀ f ∈ defNames, ∃ st fn N n a fd, DefOk K mg F0 defNames f st fn N n a fd) ∧ (∀ x ∈ bltNames, mg x = none) ∧ (∀ x z, G0 x = some z → ∃ u, mg x = some u ∧ RelV (.str z) u) ∧
      ∃ st fn N n fd, DefOk K mg F0 defNames "law" st fn N n fa fd ∧ N.take fn.ps = ([("script" : Str)] : List Str) ∧ ∀ (s : Shared) (u : Value), BindsTo s fd ⟨[u], []⟩ [(("script" : Str), u)] := by
  have e : f39 = fa := by have e := hfa.symm.trans (PySem.W.mg_of X G a39); cases e; rfl
  subst e
  have F1 := fun_mk (st := top 1) l1 c1 k1
  have d1 : DefOk K mg F0 defNames (PySem.Str.ofString "distinct") (top 1) fn_distinct nm_distinct 200 f1 _ := ⟨F0_distinct, F1, PySem.W.mg_of X G a1, sc_distinct, rfl, rfl, tr_distinct, F1.binds (ps := nm_distinct.take fn_distinct.ps) fun _ _ _ _ _ _ us hl => match us, hl with | [_], _ => rfl⟩
  have F2 := fun_mk (st := top 2) l2 c2 k2
  have d2 : DefOk K mg F0 defNames (PySem.Str.ofString "occurrences") (top 2) fn_occurrences nm_occurrences 200 f2 _ := ⟨F0_occurrences, F2, PySem.W.mg_of X G a2, sc_occurrences, rfl, rfl, tr_occurrences, F2.binds (ps := nm_occurrences.take fn_occurrences.ps) fun _ _ _ _ _ _ us hl => match us, hl with | [_], _ => rfl⟩
  have F3 := fun_mk (st := top 3) l3 c3 k3
  have d3 : DefOk K mg F0 defNames (PySem.Str.ofString "substituted") (top 3) fn_substituted nm_substituted 200 f3 _ := ⟨F0_substituted, F3, PySem.W.mg_of X G a3, sc_substituted, rfl, rfl, tr_substituted, F3.binds (ps := nm_substituted.take fn_substituted.ps) fun _ _ _ _ _ _ us hl => match us, hl with | [_, _], _ => rfl⟩
  have F4 := fun_mk (st := top 4) l4 c4 k4
  have d4 : DefOk K mg F0 defNames (PySem.Str.ofString "shifted") (top 4) fn_shifted nm_shifted 200 f4 _ := ⟨F0_shifted, F4, PySem.W.mg_of X G a4, sc_shifted, rfl, rfl, tr_shifted, F4.binds (ps := nm_shifted.take fn_shifted.ps) fun _ _ _ _ _ _ us hl => match us, hl with | [_, _], _ => rfl⟩
  have F5 := fun_mk (st := top 5) l5 c5 k5
  have d5 : DefOk K mg F0 defNames (PySem.Str.ofString "above") (top 5) fn_above nm_above 200 f5 _ := ⟨F0_above, F5, PySem.W.mg_of X G a5, sc_above, rfl, rfl, tr_above, F5.binds (ps := nm_above.take fn_above.ps) fun _ _ _ _ _ _ us hl => match us, hl with | [_], _ => rfl⟩
  have F6 := fun_mk (st := top 6) l6 c6 k6
  have d6 : DefOk K mg F0 defNames (PySem.Str.ofString "tidied") (top 6) fn_tidied nm_tidied 200 f6 _ := ⟨F0_tidied, F6, PySem.W.mg_of X G a6, sc_tidied, rfl, rfl, tr_tidied, F6.binds (ps := nm_tidied.take fn_tidied.ps) fun _ _ _ _ _ _ us hl => match us, hl with | [_], _ => rfl⟩
  have F7 := fun_mk (st := top 7) l7 c7 k7
  have d7 : DefOk K mg F0 defNames (PySem.Str.ofString "write_term") (top 7) fn_write_term nm_write_term 200 f7 _ := ⟨F0_write_term, F7, PySem.W.mg_of X G a7, sc_write_term, rfl, rfl, tr_write_term, F7.binds (ps := nm_write_term.take fn_write_term.ps) fun _ _ _ _ _ _ us hl => match us, hl with | [_], _ => rfl⟩
  have F9 := fun_mk (st := top 9) l9 c9 k9
  have d9 : DefOk K mg F0 defNames (PySem.Str.ofString "resolved") (top 9) fn_resolved nm_resolved 200 f9 _ := ⟨F0_resolved, F9, PySem.W.mg_of X G a9, sc_resolved, rfl, rfl, tr_resolved, F9.binds (ps := nm_resolved.take fn_resolved.ps) fun _ _ _ _ _ _ us hl => match us, hl with | [_, _], _ => rfl⟩
  have F10 := fun_mk (st := top 10) l10 c10 k10
  have d10 : DefOk K mg F0 defNames (PySem.Str.ofString "occurs") (top 10) fn_occurs nm_occurs 200 f10 _ := ⟨F0_occurs, F10, PySem.W.mg_of X G a10, sc_occurs, rfl, rfl, tr_occurs, F10.binds (ps := nm_occurs.take fn_occurs.ps) fun _ _ _ _ _ _ us hl => match us, hl with | [_, _, _], _ => rfl⟩
  have F11 := fun_mk (st := top 11) l11 c11 k11
  have d11 : DefOk K mg F0 defNames (PySem.Str.ofString "settled") (top 11) fn_settled nm_settled 200 f11 _ := ⟨F0_settled, F11, PySem.W.mg_of X G a11, sc_settled, rfl, rfl, tr_settled, F11.binds (ps := nm_settled.take fn_settled.ps) fun _ _ _ _ _ _ us hl => match us, hl with | [_, _], _ => rfl⟩
  have F12 := fun_mk (st := top 12) l12 c12 k12
  have d12 : DefOk K mg F0 defNames (PySem.Str.ofString "unifier") (top 12) fn_unifier nm_unifier 200 f12 _ := ⟨F0_unifier, F12, PySem.W.mg_of X G a12, sc_unifier, rfl, rfl, tr_unifier, F12.binds (ps := nm_unifier.take fn_unifier.ps) fun _ _ _ _ _ _ us hl => match us, hl with | [_], _ => rfl⟩
  have F13 := fun_mk (st := top 13) l13 c13 k13
  have d13 : DefOk K mg F0 defNames (PySem.Str.ofString "match") (top 13) fn_match nm_match 200 f13 _ := ⟨F0_match, F13, PySem.W.mg_of X G a13, sc_match, rfl, rfl, tr_match, F13.binds (ps := nm_match.take fn_match.ps) fun _ _ _ _ _ _ us hl => match us, hl with | [_, _], _ => rfl⟩
  have F14 := fun_mk (st := top 14) l14 c14 k14
  have d14 : DefOk K mg F0 defNames (PySem.Str.ofString "meet") (top 14) fn_meet nm_meet 200 f14 _ := ⟨F0_meet, F14, PySem.W.mg_of X G a14, sc_meet, rfl, rfl, tr_meet, F14.binds (ps := nm_meet.take fn_meet.ps) fun _ _ _ _ _ _ us hl => match us, hl with | [_, _], _ => rfl⟩
  have F15 := fun_mk (st := top 15) l15 c15 k15
  have d15 : DefOk K mg F0 defNames (PySem.Str.ofString "joined") (top 15) fn_joined nm_joined 200 f15 _ := ⟨F0_joined, F15, PySem.W.mg_of X G a15, sc_joined, rfl, rfl, tr_joined, F15.binds (ps := nm_joined.take fn_joined.ps) fun _ _ _ _ _ _ us hl => match us, hl with | [_, _, _], _ => rfl⟩
  have F16 := fun_mk (st := top 16) l16 c16 k16
  have d16 : DefOk K mg F0 defNames (PySem.Str.ofString "join") (top 16) fn_join nm_join 200 f16 _ := ⟨F0_join, F16, PySem.W.mg_of X G a16, sc_join, rfl, rfl, tr_join, F16.binds (ps := nm_join.take fn_join.ps) fun _ _ _ _ _ _ us hl => match us, hl with | [_, _], _ => rfl⟩
  have F17 := fun_mk (st := top 17) l17 c17 k17
  have d17 : DefOk K mg F0 defNames (PySem.Str.ofString "same_up_to_names") (top 17) fn_same_up_to_names nm_same_up_to_names 200 f17 _ := ⟨F0_same_up_to_names, F17, PySem.W.mg_of X G a17, sc_same_up_to_names, rfl, rfl, tr_same_up_to_names, F17.binds (ps := nm_same_up_to_names.take fn_same_up_to_names.ps) fun _ _ _ _ _ _ us hl => match us, hl with | [_, _], _ => rfl⟩
  have F19 := fun_mk (st := top 19) l19 c19 k19
  have d19 : DefOk K mg F0 defNames (PySem.Str.ofString "_law_same") (top 19) fn__law_same nm__law_same 200 f19 _ := ⟨F0__law_same, F19, PySem.W.mg_of X G a19, sc__law_same, rfl, rfl, tr__law_same, F19.binds (ps := nm__law_same.take fn__law_same.ps) fun _ _ _ _ _ _ us hl => match us, hl with | [_, _], _ => rfl⟩
  have F20 := fun_mk (st := top 20) l20 c20 k20
  have d20 : DefOk K mg F0 defNames (PySem.Str.ofString "_law_is_integer") (top 20) fn__law_is_integer nm__law_is_integer 200 f20 _ := ⟨F0__law_is_integer, F20, PySem.W.mg_of X G a20, sc__law_is_integer, rfl, rfl, tr__law_is_integer, F20.binds (ps := nm__law_is_integer.take fn__law_is_integer.ps) fun _ _ _ _ _ _ us hl => match us, hl with | [_], _ => rfl⟩
  have F21 := fun_mk (st := top 21) l21 c21 k21
  have d21 : DefOk K mg F0 defNames (PySem.Str.ofString "_law_pool") (top 21) fn__law_pool nm__law_pool 200 f21 _ := ⟨F0__law_pool, F21, PySem.W.mg_of X G a21, sc__law_pool, rfl, rfl, tr__law_pool, F21.binds (ps := nm__law_pool.take fn__law_pool.ps) fun _ _ _ _ _ _ us hl => match us, hl with | [_], _ => rfl⟩
  have F22 := fun_mk (st := top 22) l22 c22 k22
  have d22 : DefOk K mg F0 defNames (PySem.Str.ofString "_law_spread") (top 22) fn__law_spread nm__law_spread 200 f22 _ := ⟨F0__law_spread, F22, PySem.W.mg_of X G a22, sc__law_spread, rfl, rfl, tr__law_spread, F22.binds (ps := nm__law_spread.take fn__law_spread.ps) fun _ _ _ _ _ _ us hl => match us, hl with | [_], _ => rfl⟩
  have F23 := fun_mk (st := top 23) l23 c23 k23
  have d23 : DefOk K mg F0 defNames (PySem.Str.ofString "_law_draw") (top 23) fn__law_draw nm__law_draw 200 f23 _ := ⟨F0__law_draw, F23, PySem.W.mg_of X G a23, sc__law_draw, rfl, rfl, tr__law_draw, F23.binds (ps := nm__law_draw.take fn__law_draw.ps) fun _ _ _ _ _ _ us hl => match us, hl with | [_, _], _ => rfl⟩
  have F24 := fun_mk (st := top 24) l24 c24 k24
  have d24 : DefOk K mg F0 defNames (PySem.Str.ofString "_law_pick") (top 24) fn__law_pick nm__law_pick 200 f24 _ := ⟨F0__law_pick, F24, PySem.W.mg_of X G a24, sc__law_pick, rfl, rfl, tr__law_pick, F24.binds (ps := nm__law_pick.take fn__law_pick.ps) fun _ _ _ _ _ _ us hl => match us, hl with | [_, _], _ => rfl⟩
  have F25 := fun_mk (st := top 25) l25 c25 k25
  have d25 : DefOk K mg F0 defNames (PySem.Str.ofString "_law_spelled") (top 25) fn__law_spelled nm__law_spelled 200 f25 _ := ⟨F0__law_spelled, F25, PySem.W.mg_of X G a25, sc__law_spelled, rfl, rfl, tr__law_spelled, F25.binds (ps := nm__law_spelled.take fn__law_spelled.ps) fun _ _ _ _ _ _ us hl => match us, hl with | [_], _ => rfl⟩
  have F26 := fun_mk (st := top 26) l26 c26 k26
  have d26 : DefOk K mg F0 defNames (PySem.Str.ofString "_law_words") (top 26) fn__law_words nm__law_words 200 f26 _ := ⟨F0__law_words, F26, PySem.W.mg_of X G a26, sc__law_words, rfl, rfl, tr__law_words, F26.binds (ps := nm__law_words.take fn__law_words.ps) fun _ _ _ _ _ _ us hl => match us, hl with | [_, _], _ => rfl⟩
  have F27 := fun_mk (st := top 27) l27 c27 k27
  have d27 : DefOk K mg F0 defNames (PySem.Str.ofString "_law_constructors") (top 27) fn__law_constructors nm__law_constructors 200 f27 _ := ⟨F0__law_constructors, F27, PySem.W.mg_of X G a27, sc__law_constructors, rfl, rfl, tr__law_constructors, F27.binds (ps := nm__law_constructors.take fn__law_constructors.ps) fun _ _ _ _ _ _ us hl => match us, hl with | [_], _ => rfl⟩
  have F28 := fun_mk (st := top 28) l28 c28 k28
  have d28 : DefOk K mg F0 defNames (PySem.Str.ofString "_law_term") (top 28) fn__law_term nm__law_term 200 f28 _ := ⟨F0__law_term, F28, PySem.W.mg_of X G a28, sc__law_term, rfl, rfl, tr__law_term, F28.binds (ps := nm__law_term.take fn__law_term.ps) fun _ _ _ _ _ _ us hl => match us, hl with | [_, _, _, _], _ => rfl⟩
  have F29 := fun_mk (st := top 29) l29 c29 k29
  have d29 : DefOk K mg F0 defNames (PySem.Str.ofString "_law_occurrences") (top 29) fn__law_occurrences nm__law_occurrences 200 f29 _ := ⟨F0__law_occurrences, F29, PySem.W.mg_of X G a29, sc__law_occurrences, rfl, rfl, tr__law_occurrences, F29.binds (ps := nm__law_occurrences.take fn__law_occurrences.ps) fun _ _ _ _ _ _ us hl => match us, hl with | [_], _ => rfl⟩
  have F30 := fun_mk (st := top 30) l30 c30 k30
  have d30 : DefOk K mg F0 defNames (PySem.Str.ofString "_law_unlike") (top 30) fn__law_unlike nm__law_unlike 200 f30 _ := ⟨F0__law_unlike, F30, PySem.W.mg_of X G a30, sc__law_unlike, rfl, rfl, tr__law_unlike, F30.binds (ps := nm__law_unlike.take fn__law_unlike.ps) fun _ _ _ _ _ _ us hl => match us, hl with | [_], _ => rfl⟩
  have F31 := fun_mk (st := top 31) l31 c31 k31
  have d31 : DefOk K mg F0 defNames (PySem.Str.ofString "_law_numbers") (top 31) fn__law_numbers nm__law_numbers 200 f31 _ := ⟨F0__law_numbers, F31, PySem.W.mg_of X G a31, sc__law_numbers, rfl, rfl, tr__law_numbers, F31.binds (ps := nm__law_numbers.take fn__law_numbers.ps) fun _ _ _ _ _ _ us hl => match us, hl with | [_], _ => rfl⟩
  have F32 := fun_mk (st := top 32) l32 c32 k32
  have d32 : DefOk K mg F0 defNames (PySem.Str.ofString "_law_replace") (top 32) fn__law_replace nm__law_replace 200 f32 _ := ⟨F0__law_replace, F32, PySem.W.mg_of X G a32, sc__law_replace, rfl, rfl, tr__law_replace, F32.binds (ps := nm__law_replace.take fn__law_replace.ps) fun _ _ _ _ _ _ us hl => match us, hl with | [_, _], _ => rfl⟩
  have F33 := fun_mk (st := top 33) l33 c33 k33
  have d33 : DefOk K mg F0 defNames (PySem.Str.ofString "_law_renumbered") (top 33) fn__law_renumbered nm__law_renumbered 200 f33 _ := ⟨F0__law_renumbered, F33, PySem.W.mg_of X G a33, sc__law_renumbered, rfl, rfl, tr__law_renumbered, F33.binds (ps := nm__law_renumbered.take fn__law_renumbered.ps) fun _ _ _ _ _ _ us hl => match us, hl with | [_], _ => rfl⟩
  have F34 := fun_mk (st := top 34) l34 c34 k34
  have d34 : DefOk K mg F0 defNames (PySem.Str.ofString "_law_moved") (top 34) fn__law_moved nm__law_moved 200 f34 _ := ⟨F0__law_moved, F34, PySem.W.mg_of X G a34, sc__law_moved, rfl, rfl, tr__law_moved, F34.binds (ps := nm__law_moved.take fn__law_moved.ps) fun _ _ _ _ _ _ us hl => match us, hl with | [_, _], _ => rfl⟩
  have F35 := fun_mk (st := top 35) l35 c35 k35
  have d35 : DefOk K mg F0 defNames (PySem.Str.ofString "_law_taken") (top 35) fn__law_taken nm__law_taken 200 f35 _ := ⟨F0__law_taken, F35, PySem.W.mg_of X G a35, sc__law_taken, rfl, rfl, tr__law_taken, F35.binds (ps := nm__law_taken.take fn__law_taken.ps) fun _ _ _ _ _ _ us hl => match us, hl with | [_, _, _], _ => rfl⟩
  have F36 := fun_mk (st := top 36) l36 c36 k36
  have d36 : DefOk K mg F0 defNames (PySem.Str.ofString "_law_is_instance") (top 36) fn__law_is_instance nm__law_is_instance 200 f36 _ := ⟨F0__law_is_instance, F36, PySem.W.mg_of X G a36, sc__law_is_instance, rfl, rfl, tr__law_is_instance, F36.binds (ps := nm__law_is_instance.take fn__law_is_instance.ps) fun _ _ _ _ _ _ us hl => match us, hl with | [_, _], _ => rfl⟩
  have F37 := fun_mk (st := top 37) l37 c37 k37
  have d37 : DefOk K mg F0 defNames (PySem.Str.ofString "_law_alike") (top 37) fn__law_alike nm__law_alike 200 f37 _ := ⟨F0__law_alike, F37, PySem.W.mg_of X G a37, sc__law_alike, rfl, rfl, tr__law_alike, F37.binds (ps := nm__law_alike.take fn__law_alike.ps) fun _ _ _ _ _ _ us hl => match us, hl with | [_, _], _ => rfl⟩
  have F38 := fun_mk (st := top 38) l38 c38 k38
  have d38 : DefOk K mg F0 defNames (PySem.Str.ofString "_law_meet_of") (top 38) fn__law_meet_of nm__law_meet_of 200 f38 _ := ⟨F0__law_meet_of, F38, PySem.W.mg_of X G a38, sc__law_meet_of, rfl, rfl, tr__law_meet_of, F38.binds (ps := nm__law_meet_of.take fn__law_meet_of.ps) fun _ _ _ _ _ _ us hl => match us, hl with | [_, _], _ => rfl⟩
  have F39 := fun_mk (st := top 39) l39 c39 k39
  have d39 : DefOk K mg F0 defNames (PySem.Str.ofString "law") (top 39) fn_law nm_law 200 f39 _ := ⟨F0_law, F39, PySem.W.mg_of X G a39, sc_law, rfl, rfl, tr_law, F39.binds (ps := nm_law.take fn_law.ps) fun _ _ _ _ _ _ us hl => match us, hl with | [_], _ => rfl⟩
  refine ⟨?_, ?_, ?_, _, _, _, _, _, d39, rfl, fun s u => .of_eq rfl⟩
  · exact lm ⟨_, _, _, _, _, _, d1⟩ (lm ⟨_, _, _, _, _, _, d2⟩ (lm ⟨_, _, _, _, _, _, d3⟩ (lm ⟨_, _, _, _, _, _, d4⟩ (lm ⟨_, _, _, _, _, _, d5⟩ (lm ⟨_, _, _, _, _, _, d6⟩ (lm ⟨_, _, _, _, _, _, d7⟩ (lm ⟨_, _, _, _, _, _, d9⟩ (lm ⟨_, _, _, _, _, _, d10⟩ (lm ⟨_, _, _, _, _, _, d11⟩ (lm ⟨_, _, _, _, _, _, d12⟩ (lm ⟨_, _, _, _, _, _, d13⟩ (lm ⟨_, _, _, _, _, _, d14⟩ (lm ⟨_, _, _, _, _, _, d15⟩ (lm ⟨_, _, _, _, _, _, d16⟩ (lm ⟨_, _, _, _, _, _, d17⟩ (lm ⟨_, _, _, _, _, _, d19⟩ (lm ⟨_, _, _, _, _, _, d20⟩ (lm ⟨_, _, _, _, _, _, d21⟩ (lm ⟨_, _, _, _, _, _, d22⟩ (lm ⟨_, _, _, _, _, _, d23⟩ (lm ⟨_, _, _, _, _, _, d24⟩ (lm ⟨_, _, _, _, _, _, d25⟩ (lm ⟨_, _, _, _, _, _, d26⟩ (lm ⟨_, _, _, _, _, _, d27⟩ (lm ⟨_, _, _, _, _, _, d28⟩ (lm ⟨_, _, _, _, _, _, d29⟩ (lm ⟨_, _, _, _, _, _, d30⟩ (lm ⟨_, _, _, _, _, _, d31⟩ (lm ⟨_, _, _, _, _, _, d32⟩ (lm ⟨_, _, _, _, _, _, d33⟩ (lm ⟨_, _, _, _, _, _, d34⟩ (lm ⟨_, _, _, _, _, _, d35⟩ (lm ⟨_, _, _, _, _, _, d36⟩ (lm ⟨_, _, _, _, _, _, d37⟩ (lm ⟨_, _, _, _, _, _, d38⟩ (lm ⟨_, _, _, _, _, _, d39⟩ (ln)))))))))))))))))))))))))))))))))))))
  · exact lm (PySem.W.mg_none_of X G z0) (lm (PySem.W.mg_none_of X G z1) (lm (PySem.W.mg_none_of X G z2) (lm (PySem.W.mg_none_of X G z3) (lm (PySem.W.mg_none_of X G z4) (lm (PySem.W.mg_none_of X G z5) (lm (PySem.W.mg_none_of X G z6) (lm (PySem.W.mg_none_of X G z7) (lm (PySem.W.mg_none_of X G z8) (lm (PySem.W.mg_none_of X G z9) (lm (PySem.W.mg_none_of X G z10) (lm (PySem.W.mg_none_of X G z11) (lm (PySem.W.mg_none_of X G z12) (lm (PySem.W.mg_none_of X G z13) (lm (PySem.W.mg_none_of X G z14) (lm (PySem.W.mg_none_of X G z15) (lm (PySem.W.mg_none_of X G z16) (lm (PySem.W.mg_none_of X G z17) (lm (PySem.W.mg_none_of X G z18) (ln)))))))))))))))))))
  · intro x z hx
    have hx := G0_mem hx
    cases hx
end
end Mp
open PySem PySem.W PyProof.Rows
set_option maxRecDepth 100000 in
set_option maxHeartbeats 0 in
theorem PySem.Challenge.cw_casefamilies_k13_whole_meets_and_joins_a_holds : PySem.Challenge.rw_casefamilies_k13_whole_meets_and_joins_a.Holds := by
  w_on; o_law; k_head; (case hw => w_witness2)
  k_fill
  refine Mp.walkG (l := PySem.Challenge.rw_casefamilies_k13_whole_meets_and_joins_a) (n := 63) (k := 200) (F := Mp.F0) (G := Mp.G0) (L := Mp.defNames) rfl (by decide) rfl (by decide +kernel) ⟨rfl, by decide, by decide⟩ (fun w h Y => PySem.W.kIn_of Y) ?F (fun ns hn => Mp.law_true ns hn)
  case F =>
    intro w mg fa h KX G hmg
    refine' Mp.all_mk (w := w) KX G hmg ?a1 ?l1 ?c1 ?k1 ?a2 ?l2 ?c2 ?k2 ?a3 ?l3 ?c3 ?k3 ?a4 ?l4 ?c4 ?k4 ?a5 ?l5 ?c5 ?k5 ?a6 ?l6 ?c6 ?k6 ?a7 ?l7 ?c7 ?k7 ?a9 ?l9 ?c9 ?k9 ?a10 ?l10 ?c10 ?k10 ?a11 ?l11 ?c11 ?k11 ?a12 ?l12 ?c12 ?k12 ?a13 ?l13 ?c13 ?k13 ?a14 ?l14 ?c14 ?k14 ?a15 ?l15 ?c15 ?k15 ?a16 ?l16 ?c16 ?k16 ?a17 ?l17 ?c17 ?k17 ?a19 ?l19 ?c19 ?k19 ?a20 ?l20 ?c20 ?k20 ?a21 ?l21 ?c21 ?k21 ?a22 ?l22 ?c22 ?k22 ?a23 ?l23 ?c23 ?k23 ?a24 ?l24 ?c24 ?k24 ?a25 ?l25 ?c25 ?k25 ?a26 ?l26 ?c26 ?k26 ?a27 ?l27 ?c27 ?k27 ?a28 ?l28 ?c28 ?k28 ?a29 ?l29 ?c29 ?k29 ?a30 ?l30 ?c30 ?k30 ?a31 ?l31 ?c31 ?k31 ?a32 ?l32 ?c32 ?k32 ?a33 ?l33 ?c33 ?k33 ?a34 ?l34 ?c34 ?k34 ?a35 ?l35 ?c35 ?k35 ?a36 ?l36 ?c36 ?k36 ?a37 ?l37 ?c37 ?k37 ?a38 ?l38 ?c38 ?k38 ?a39 ?l39 ?c39 ?k39 ?z0 ?z1 ?z2 ?z3 ?z4 ?z5 ?z6 ?z7 ?z8 ?z9 ?z10 ?z11 ?z12 ?z13 ?z14 ?z15 ?z16 ?z17 ?z18
    (case a1 => k_is); (case l1 => k_is); (case c1 => k_is); (case k1 => k_is)
    (case a2 => k_is); (case l2 => k_is); (case c2 => k_is); (case k2 => k_is)
    (case a3 => k_is); (case l3 => k_is); (case c3 => k_is); (case k3 => k_is)
    (case a4 => k_is); (case l4 => k_is); (case c4 => k_is); (case k4 => k_is)
    (case a5 => k_is); (case l5 => k_is); (case c5 => k_is); (case k5 => k_is)
    (case a6 => k_is); (case l6 => k_is); (case c6 => k_is); (case k6 => k_is)
    (case a7 => k_is); (case l7 => k_is); (case c7 => k_is); (case k7 => k_is)
    (case a9 => k_is); (case l9 => k_is); (case c9 => k_is); (case k9 => k_is)
    (case a10 => k_is); (case l10 => k_is); (case c10 => k_is); (case k10 => k_is)
    (case a11 => k_is); (case l11 => k_is); (case c11 => k_is); (case k11 => k_is)
    (case a12 => k_is); (case l12 => k_is); (case c12 => k_is); (case k12 => k_is)
    (case a13 => k_is); (case l13 => k_is); (case c13 => k_is); (case k13 => k_is)
    (case a14 => k_is); (case l14 => k_is); (case c14 => k_is); (case k14 => k_is)
    (case a15 => k_is); (case l15 => k_is); (case c15 => k_is); (case k15 => k_is)
    (case a16 => k_is); (case l16 => k_is); (case c16 => k_is); (case k16 => k_is)
    (case a17 => k_is); (case l17 => k_is); (case c17 => k_is); (case k17 => k_is)
    (case a19 => k_is); (case l19 => k_is); (case c19 => k_is); (case k19 => k_is)
    (case a20 => k_is); (case l20 => k_is); (case c20 => k_is); (case k20 => k_is)
    (case a21 => k_is); (case l21 => k_is); (case c21 => k_is); (case k21 => k_is)
    (case a22 => k_is); (case l22 => k_is); (case c22 => k_is); (case k22 => k_is)
    (case a23 => k_is); (case l23 => k_is); (case c23 => k_is); (case k23 => k_is)
    (case a24 => k_is); (case l24 => k_is); (case c24 => k_is); (case k24 => k_is)
    (case a25 => k_is); (case l25 => k_is); (case c25 => k_is); (case k25 => k_is)
    (case a26 => k_is); (case l26 => k_is); (case c26 => k_is); (case k26 => k_is)
    (case a27 => k_is); (case l27 => k_is); (case c27 => k_is); (case k27 => k_is)
    (case a28 => k_is); (case l28 => k_is); (case c28 => k_is); (case k28 => k_is)
    (case a29 => k_is); (case l29 => k_is); (case c29 => k_is); (case k29 => k_is)
    (case a30 => k_is); (case l30 => k_is); (case c30 => k_is); (case k30 => k_is)
    (case a31 => k_is); (case l31 => k_is); (case c31 => k_is); (case k31 => k_is)
    (case a32 => k_is); (case l32 => k_is); (case c32 => k_is); (case k32 => k_is)
    (case a33 => k_is); (case l33 => k_is); (case c33 => k_is); (case k33 => k_is)
    (case a34 => k_is); (case l34 => k_is); (case c34 => k_is); (case k34 => k_is)
    (case a35 => k_is); (case l35 => k_is); (case c35 => k_is); (case k35 => k_is)
    (case a36 => k_is); (case l36 => k_is); (case c36 => k_is); (case k36 => k_is)
    (case a37 => k_is); (case l37 => k_is); (case c37 => k_is); (case k37 => k_is)
    (case a38 => k_is); (case l38 => k_is); (case c38 => k_is); (case k38 => k_is)
    (case a39 => k_is); (case l39 => k_is); (case c39 => k_is); (case k39 => k_is)
    (case z0 => k_is); (case z1 => k_is); (case z2 => k_is); (case z3 => k_is); (case z4 => k_is); (case z5 => k_is); (case z6 => k_is); (case z7 => k_is); (case z8 => k_is); (case z9 => k_is); (case z10 => k_is); (case z11 => k_is); (case z12 => k_is); (case z13 => k_is); (case z14 => k_is); (case z15 => k_is); (case z16 => k_is); (case z17 => k_is); (case z18 => k_is)
