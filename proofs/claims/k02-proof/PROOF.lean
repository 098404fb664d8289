import PyProof.Rows.All
import Wide.All
import OpenK.AllK
import Wide.FinOn
import HandS.ForMost
import HandS.Deep
import HandS.IsInst
import HandS.TupAny
import HandS.TupMul
import HandS.Wide
import HandS.Style
import HandS.Flow
import PySem.Challenge.RW_casefamilies_k02_terms_told
set_option Elab.async false
set_option linter.all false
set_option maxRecDepth 100000
namespace Mp
open PySem

/-! ## values, the store -/
/-- a value: tuples (and the script) are values, lists and dicts stand at addresses -/
inductive D where
  | non | bl (b : Bool) | int (i : Int) | str (x : Str) | tup (xs : List D) | scr (ns : List Int) | ref (a : Addr)
  deriving Inhabited
inductive Ob where
  | lst (xs : List D)
  | dic (kvs : List (L2.Key × D))
  | lck (kvs : List (L2.Key × D))
abbrev Sto := Addr → Option Ob
def Sto.put (S : Sto) (a : Addr) (o : Ob) : Sto := fun b => if b = a then some o else S b
theorem put_same {S : Sto} {a : Addr} {o : Ob} : S.put a o a = some o := if_pos rfl
theorem put_ne {S : Sto} {a b : Addr} {o : Ob} (h : b ≠ a) : S.put a o b = S b := if_neg h
theorem put_put {S : Sto} {a : Addr} {o u : Ob} : (S.put a o).put a u = S.put a u := by
  funext b; unfold Sto.put; by_cases h : b = a <;> simp [h]

/-! ## the language -/
inductive Tg where
  | one (i : Nat) | tup (is : List Nat)
inductive Bt where
  | len | int | tuple | list | sum | max | min | any | all | repr | abs | str
  deriving DecidableEq
inductive Ty where
  | int | bool | str | tuple | list | dict
  deriving DecidableEq
inductive Mt where
  | append | extend | pop | get
  deriving DecidableEq
/-- what a loop walks: a value, a range, two things side by side -/
inductive Ik where
  | val | rng | zip
  deriving DecidableEq
inductive E where
  | non | bl (b : Bool) | int (i : Int) | str (x : Str)
  | v (i : Nat)
  | g (x : Str)
  | tup (es : List E) | lst (es : List E) | dnew
  | bin (o : Operator) (a b : E)
  | neg (a : E)
  | not (a : E) | and (a b : E) | or (a b : E) | tru (a : E)
  | cmp (o : CmpOp) (a b : E) | cmp2 (o p : CmpOp) (a b c : E)
  | ite (c a b : E)
  | call (f : Str) (es : List E)
  | blt (f : Bt) (es : List E)
  | isi (a : E) (t : Ty)
  | mth (m : Mt) (o : E) (es : List E)
  | ix (a i : E) | sl (a : E) (lo hi : List E)
  | lc (own : List Nat) (t : Tg) (k : Ik) (it : List E) (c elt : E)
inductive Sm where
  | asg (t : Tg) (e : E)
  | set (o i e : E)
  | aug (i : Nat) (o : Operator) (e : E)
  | ex (e : E)
  | ret (e : E) | retN
  | ite (c : E) (a b : List Sm)
  | loop (t : Tg) (k : Ik) (it : List E) (b : List Sm)
  | whl (c : E) (b : List Sm)
  | brk | cnt | pass
  | raise (x : Str) (es : List E)
structure Fn where
  ps : Nat
  n : Nat
  body : List Sm

/-! ## what a piece means -/
abbrev Sl := List (Option D)
abbrev Post := D → Sto → Prop
abbrev XPost := Str → List D → Sto → Prop
abbrev Callee := Str → List D → Sto → XPost → Post → Prop
structure En where
  nx : Sl → Sto → Prop
  rt : Post
  bk : Sl → Sto → Prop := fun _ _ => False
  ct : Sl → Sto → Prop := fun _ _ => False
  ex : XPost

/-- a new object -/
def pNew (o : Ob) (S : Sto) (Q : Post) : Prop := ∀ a, S a = none → Q (.ref a) (S.put a o)

/-! ### operators -/
def pAdd (x y : D) (S : Sto) (Q : Post) : Prop := match x, y with
  | .int i, .int j => Q (.int (i + j)) S
  | .str u, .str v => u.length + v.length ≤ sizeLine ∧ Q (.str (u ++ v)) S
  | .tup u, .tup v => u.length + v.length ≤ sizeLine ∧ Q (.tup (u ++ v)) S
  | .ref p, .ref q => match S p, S q with
    | some (.lst u), some (.lst v) => u.length + v.length ≤ sizeLine ∧ pNew (.lst (u ++ v)) S Q
    | _, _ => False
  | _, _ => False
def pMul (x y : D) (S : Sto) (Q : Post) : Prop := match x, y with
  | .int i, .int j => (i.natAbs.log2 + j.natAbs.log2 < 1000000 ∨ L2.CMul i j) ∧ Q (.int (i * j)) S
  | .tup u, .int k => u ≠ [] ∧ 2 ≤ k ∧ k ≤ 1000 ∧ u.length ≤ 1000 ∧ Q (.tup (List.replicate k.toNat u).flatten) S
  | .ref p, .int k => match S p with
    | some (.lst u) => -(2 ^ 63) ≤ k ∧ k < 2 ^ 63 ∧ u.length * k.toNat ≤ sizeLine ∧ pNew (.lst (List.replicate k.toNat u).flatten) S Q
    | _ => False
  | _, _ => False
def pBin (o : Operator) (x y : D) (S : Sto) (Q : Post) : Prop := match o with
  | .Add => pAdd x y S Q
  | .Mult => pMul x y S Q
  | .Sub => ∃ i j, x = .int i ∧ y = .int j ∧ Q (.int (i - j)) S
  | .Mod => ∃ i j, x = .int i ∧ y = .int j ∧ 0 < j ∧ Q (.int (i % j)) S
  | .FloorDiv => ∃ i j, x = .int i ∧ y = .int j ∧ (0 < j ∧ j.natAbs.log2 < 9000) ∧ Q (.int (i / j)) S
  | .Pow => ∃ i j, x = .int i ∧ y = .int j ∧ (0 ≤ j ∧ j ≤ 1000000 ∧ i.natAbs < 2 ^ 64) ∧ Q (.int (i ^ j.toNat)) S
  | _ => False

mutual
/-- a value as data -/
inductive Pd (S : Sto) : D → PyData → Prop
  | non : Pd S .non .none
  | bl (b : Bool) : Pd S (.bl b) (.bool b)
  | int (i : Int) : Pd S (.int i) (.int i)
  | str (x : Str) : Pd S (.str x) (.str x)
  | tup {ds : List D} {ps : List PyData} : Pds S ds ps → Pd S (.tup ds) (.tuple ps)
  | lst {a : Addr} {ds : List D} {ps : List PyData} : S a = some (.lst ds) → Pds S ds ps → Pd S (.ref a) (.list ps)
inductive Pds (S : Sto) : List D → List PyData → Prop
  | nil : Pds S [] []
  | cons {d : D} {ds : List D} {p : PyData} {ps : List PyData} : Pd S d p → Pds S ds ps → Pds S (d :: ds) (p :: ps)
end
/-- a scalar -/
def D.flat : D → Bool
  | .non | .bl _ | .int _ | .str _ => true
  | _ => false
def D.toV : D → L2.V
  | .non => .non
  | .bl b => .bl b
  | .int i => .int i
  | .str x => .str x
  | _ => .non
/-- what == tells apart as it stands -/
def scalD : D → D → Bool
  | .non, .non => true | .non, .int _ => true | .int _, .non => true | .non, .bl _ => true | .bl _, .non => true | .non, .str _ => true | .str _, .non => true
  | .int _, .int _ => true | .bl _, .bl _ => true | .str _, .str _ => true
  | .int _, .str _ => true | .str _, .int _ => true | .bl _, .str _ => true | .str _, .bl _ => true
  | _, _ => false
def pEq (x y : D) (S : Sto) (Q : Bool → Prop) : Prop := (scalD x y = true ∧ Q (decide (x.toV = y.toV))) ∨ ∃ p q, Pd S x p ∧ Pd S y q ∧ SeqAt.shaped p = true ∧ SeqAt.shaped q = true ∧ Q (PyData.eqv p q)
def pInL (x : D) (ys : List D) (S : Sto) (Q : Bool → Prop) : Prop :=
  (x.flat = true ∧ ys.all D.flat = true ∧ Q (ys.any fun y => L2.eqV y.toV x.toV)) ∨
  ∃ p ps, Pd S x p ∧ Pds S ys ps ∧ SeqAt.shaped p = true ∧ SeqAt.shaped (.list ps) = true ∧ Q (ps.any fun z => PyData.eqv z p)
def keyOf : D → Option L2.Key
  | .int i => some (.inl i)
  | .str x => some (.inr x)
  | _ => none
def pIn (x y : D) (S : Sto) (Q : Bool → Prop) : Prop := match y with
  | .str z => ∃ u, x = .str u ∧ Q (!(Builtin.Str.occurrences z u 0 z.length 1).isEmpty)
  | .tup ys => x.flat = true ∧ ys.all D.flat = true ∧ Q (ys.any fun y => L2.eqV y.toV x.toV)
  | .ref a => match S a with
    | some (.lst ys) => pInL x ys S Q
    | _ => False
  | _ => False
def pCmp (o : CmpOp) (x y : D) (S : Sto) (Q : Bool → Prop) : Prop := match o with
  | .Eq => pEq x y S Q
  | .NotEq => pEq x y S fun b => Q (!b)
  | .Lt => ∃ i j, x = .int i ∧ y = .int j ∧ Q (decide (i < j))
  | .LtE => ∃ i j, x = .int i ∧ y = .int j ∧ Q (decide (i ≤ j))
  | .Gt => ∃ i j, x = .int i ∧ y = .int j ∧ Q (decide (j < i))
  | .GtE => ∃ i j, x = .int i ∧ y = .int j ∧ Q (decide (j ≤ i))
  | .Is => y = .non ∧ Q (match x with | .non => true | _ => false)
  | .IsNot => y = .non ∧ Q (match x with | .non => false | _ => true)
  | .In => pIn x y S Q
  | .NotIn => pIn x y S fun b => Q (!b)

/-! ### tests, types, indices -/
def pTru (x : D) (S : Sto) (Q : Bool → Prop) : Prop := match x with
  | .non => Q false
  | .bl b => Q b
  | .int i => Q (i != 0)
  | .str u => u.length ≤ sizeLine ∧ Q ((u.length : Int) != 0)
  | .tup u => Q (!u.isEmpty)
  | .scr u => Q (!u.isEmpty)
  | .ref a => match S a with
    | some (.lst u) => Q (!u.isEmpty)
    | some (.dic u) => Q (!u.isEmpty)
    | _ => False
def tyOf (x : D) (S : Sto) : Option String := match x with
  | .non => some "NoneType"
  | .bl _ => some "bool"
  | .int _ => some "int"
  | .str _ => some "str"
  | .tup _ => some "tuple"
  | .scr _ => some "list"
  | .ref a => match S a with
    | some (.lst _) => some "list"
    | some (.dic _) => some "dict"
    | some (.lck _) => some "dict"
    | none => none
def Ty.name : Ty → String
  | .int => "int" | .bool => "bool" | .str => "str" | .tuple => "tuple" | .list => "list" | .dict => "dict"
def isTy (s : String) (t : Ty) : Bool := s == t.name || (s == "bool" && t == .int)
def pIsi (x : D) (t : Ty) (S : Sto) (Q : Bool → Prop) : Prop := match tyOf x S with
  | some s => Q (isTy s t)
  | none => False
def pIx (x i : D) (S : Sto) (Q : Post) : Prop := match x with
  | .tup u => ∃ k d, i = .int k ∧ L2.atI u k = some d ∧ Q d S
  | .scr u => ∃ k d, i = .int k ∧ L2.atI u k = some d ∧ Q (.int d) S
  | .str z => ∃ k c, i = .int k ∧ z.length ≤ sizeLine ∧ L2.atI z.cps.toList k = some c ∧ Q (.str ⟨#[c]⟩) S
  | .ref a => match S a with
    | some (.lst u) => ∃ k d, i = .int k ∧ L2.atI u k = some d ∧ Q d S
    | _ => False
  | _ => False
def cutD {α : Type} (xs : List α) (lo hi : Option Int) : List α := (xs.drop (HT.sIx xs.length 0 lo)).take (HT.sIx xs.length xs.length hi - HT.sIx xs.length 0 lo)
def pSl (x : D) (lo hi : Option Int) (S : Sto) (Q : Post) : Prop := match x with
  | .tup u => Q (.tup (cutD u lo hi)) S
  | .scr u => pNew (.lst ((cutD u lo hi).map .int)) S Q
  | .str z => z.length ≤ sizeLine ∧ Q (.str (L2.cutS z lo hi)) S
  | .ref a => match S a with
    | some (.lst u) => pNew (.lst (cutD u lo hi)) S Q
    | _ => False
  | _ => False

/-! ### built-in functions -/
def seqOf (x : D) (S : Sto) : Option (List D) := match x with
  | .tup u => some u
  | .scr u => some (u.map .int)
  | .ref a => match S a with
    | some (.lst u) => some u
    | _ => none
  | _ => none
def intsOf : List D → Option (List Int)
  | [] => some []
  | .int i :: r => (intsOf r).map (i :: ·)
  | _ :: _ => none
def blsOf : List D → Option (List Bool)
  | [] => some []
  | .bl b :: r => (blsOf r).map (b :: ·)
  | _ :: _ => none
def pLen (x : D) (S : Sto) (Q : Post) : Prop := match x with
  | .str z => z.length ≤ sizeLine ∧ Q (.int z.length) S
  | .ref a => match S a with
    | some (.dic u) => Q (.int u.length) S
    | some (.lst u) => Q (.int u.length) S
    | _ => False
  | .tup u => Q (.int u.length) S
  | .scr u => Q (.int u.length) S
  | _ => False
def pB (f : Bt) (xs : List D) (S : Sto) (Q : Post) : Prop := match f, xs with
  | .len, [x] => pLen x S Q
  | .int, [.int i] => Q (.int i) S
  | .int, [.bl b] => Q (.int (if b then 1 else 0)) S
  | .abs, [.int i] => Q (.int (if i < 0 then -i else i)) S
  | .str, [.int i] => i.natAbs.log2 < 1920 ∧ Q (.str (toString i)) S
  | .max, [.int i, .int j] => Q (.int (if j > i then j else i)) S
  | .min, [.int i, .int j] => Q (.int (if j < i then j else i)) S
  | .tuple, [x] => ∃ u, seqOf x S = some u ∧ Q (.tup u) S
  | .list, [x] => ∃ u, seqOf x S = some u ∧ pNew (.lst u) S Q
  | .sum, [.ref a] => ∃ u ns, S a = some (.lst u) ∧ intsOf u = some ns ∧ Q (.int ns.sum) S
  | .max, [.ref a] => ∃ u ns m, S a = some (.lst u) ∧ intsOf u = some ns ∧ (m ∈ ns ∧ ∀ y, y ∈ ns → y ≤ m) ∧ Q (.int m) S
  | .min, [.ref a] => ∃ u ns m, S a = some (.lst u) ∧ intsOf u = some ns ∧ (m ∈ ns ∧ ∀ y, y ∈ ns → m ≤ y) ∧ Q (.int m) S
  | .any, [.ref a] => ∃ u bs, S a = some (.lst u) ∧ blsOf u = some bs ∧ Q (.bl (bs.any id)) S
  | .all, [.ref a] => ∃ u bs, S a = some (.lst u) ∧ blsOf u = some bs ∧ Q (.bl (bs.all id)) S
  | .repr, [x] => ∃ p, Pd S x p ∧ p.showable = true ∧ p.depth ≤ 40 ∧ p.shown.length ≤ sizeLine ∧ Q (.str p.shown) S
  | _, _ => False
/-! ### methods -/
def pM (m : Mt) (x : D) (xs : List D) (S : Sto) (Q : Post) : Prop := match m, x, xs with
  | .append, .ref a, [y] => match S a with
    | some (.lst u) => u.length < sizeLine ∧ Q .non (S.put a (.lst (u ++ [y])))
    | _ => False
  | .extend, .ref a, [.ref b] => match S a, S b with
    | some (.lst u), some (.lst v) => u.length + v.length ≤ sizeLine ∧ Q .non (S.put a (.lst (u ++ v)))
    | _, _ => False
  | .pop, .ref a, [] => match S a with
    | some (.lst u) => ∃ y, u[u.length - 1]? = some y ∧ Q y (S.put a (.lst u.dropLast))
    | _ => False
  | _, _, _ => False
/-- the receiver's type -/
def mTy (m : Mt) (x : D) (S : Sto) : Prop := match m, x with
  | .append, .ref a => ∃ u, S a = some (.lst u)
  | .extend, .ref a => ∃ u, S a = some (.lst u)
  | .pop, .ref a => ∃ u, S a = some (.lst u)
  | _, _ => False
def pSet (x i y : D) (S : Sto) (Q : Sto → Prop) : Prop := match x with
  | .ref a => match S a with
    | some (.lst u) => ∃ k j, i = .int k ∧ L2.ixN u.length k = some j ∧ Q (S.put a (.lst (u.set j y)))
    | _ => False
  | _ => False

/-! ### targets, loops -/
def setAll : List Nat → List D → Sl → Sl
  | i :: is, x :: xs, σ => setAll is xs (σ.set i (some x))
  | _, _, σ => σ
def wpTg (t : Tg) (x : D) (σ : Sl) (Q : Sl → Prop) : Prop := match t, x with
  | .one i, x => Q (σ.set i (some x))
  | .tup is, .tup xs => xs.length = is.length ∧ Q (setAll is xs σ)
  | _, _ => False
def wipeD (σ : Sl) : List Nat → Sl
  | [] => σ
  | v :: vs => (wipeD σ vs).set v none
/-- the turns of a comprehension -/
def wpLC (chk : Sto → Prop) (el : D → Sto → (Option D → Sto → Prop) → Prop) : List D → List D → Sto → (List D → Sto → Prop) → Prop
  | [], acc, S, Q => chk S ∧ Q acc S
  | x :: xs, acc, S, Q => chk S ∧ el x S fun r S' => match r with
    | some y => acc.length < sizeLine ∧ wpLC chk el xs (acc ++ [y]) S' Q
    | none => wpLC chk el xs acc S' Q
/-- the turns of a for -/
def wpFor (chk : Sto → Prop) (body : D → En → Sl → Sto → Prop) : List D → En → Sl → Sto → Prop
  | [], N, σ, S => chk S ∧ N.nx σ S
  | x :: xs, N, σ, S => chk S ∧ body x { N with nx := wpFor chk body xs N, ct := wpFor chk body xs N, bk := N.nx } σ S
/-- what is walked: its items, and what must stand at each turn -/
def pIt (x : D) (S : Sto) (Q : List D → (Sto → Prop) → Prop) : Prop := match x with
  | .tup u => Q u fun _ => True
  | .scr u => Q (u.map .int) fun _ => True
  | .str z => Q (z.cps.toList.map fun c => .str ⟨#[c]⟩) fun _ => True
  | .ref a => match S a with
    | some (.lst u) => Q u fun S => S a = some (.lst u)
    | _ => False
  | _ => False
def rgOf (lo hi : Int) : List D := (List.range (hi - lo).toNat).map fun (k : Nat) => D.int (lo + (k : Int))
def small (i : Int) : Prop := -(2 ^ 62) ≤ i ∧ i < 2 ^ 62
def pItK (k : Ik) (xs : List D) (S : Sto) (Q : List D → (Sto → Prop) → Prop) : Prop := match k, xs with
  | .val, [x] => pIt x S Q
  | .rng, [.int j] => small j ∧ Q (rgOf 0 j) fun _ => True
  | .rng, [.int i, .int j] => (small i ∧ small j) ∧ Q (rgOf i j) fun _ => True
  | _, _ => False
def partOf : List D → Option (Option Int)
  | [] => some none
  | [.int i] => some (some i)
  | _ => none

mutual
def wpE (W : Callee) (G : Str → Option Str) : E → Sl → Sto → XPost → Post → Prop
  | .non, _, S, _, Q => Q .non S
  | .bl b, _, S, _, Q => Q (.bl b) S
  | .int i, _, S, _, Q => Q (.int i) S
  | .str x, _, S, _, Q => Q (.str x) S
  | .v i, σ, S, _, Q => ∃ d, σ[i]? = some (some d) ∧ Q d S
  | .g x, _, S, _, Q => ∃ z, G x = some z ∧ Q (.str z) S
  | .tup es, σ, S, X, Q => wpEs W G es σ S X fun ds S1 => Q (.tup ds) S1
  | .lst es, σ, S, X, Q => wpEs W G es σ S X fun ds S1 => pNew (.lst ds) S1 Q
  | .dnew, _, S, _, Q => pNew (.dic []) S Q
  | .bin o a b, σ, S, X, Q => wpE W G a σ S X fun x S1 => wpE W G b σ S1 X fun y S2 => pBin o x y S2 Q
  | .neg a, σ, S, X, Q => wpE W G a σ S X fun x S1 => ∃ i, x = .int i ∧ Q (.int (-i)) S1
  | .not a, σ, S, X, Q => wpE W G a σ S X fun x S1 => ∃ c, x = .bl c ∧ Q (.bl (!c)) S1
  | .and a b, σ, S, X, Q => wpE W G a σ S X fun x S1 => ∃ c, x = .bl c ∧ if c = true then wpE W G b σ S1 X Q else Q (.bl false) S1
  | .or a b, σ, S, X, Q => wpE W G a σ S X fun x S1 => ∃ c, x = .bl c ∧ if c = true then Q (.bl true) S1 else wpE W G b σ S1 X Q
  | .tru a, σ, S, X, Q => wpE W G a σ S X fun x S1 => pTru x S1 fun b => Q (.bl b) S1
  | .cmp o a b, σ, S, X, Q => wpE W G a σ S X fun x S1 => wpE W G b σ S1 X fun y S2 => pCmp o x y S2 fun c => Q (.bl c) S2
  | .cmp2 o p a b c, σ, S, X, Q => wpE W G a σ S X fun x S1 => wpE W G b σ S1 X fun y S2 => pCmp o x y S2 fun k =>
      if k = true then wpE W G c σ S2 X fun z S3 => pCmp p y z S3 fun k' => Q (.bl k') S3 else Q (.bl false) S2
  | .ite c a b, σ, S, X, Q => wpE W G c σ S X fun x S1 => ∃ k, x = .bl k ∧ if k = true then wpE W G a σ S1 X Q else wpE W G b σ S1 X Q
  | .call f es, σ, S, X, Q => wpEs W G es σ S X fun ds S1 => W f ds S1 X Q
  | .blt f es, σ, S, X, Q => wpEs W G es σ S X fun ds S1 => pB f ds S1 Q
  | .isi a t, σ, S, X, Q => wpE W G a σ S X fun x S1 => pIsi x t S1 fun b => Q (.bl b) S1
  | .mth m o es, σ, S, X, Q => wpE W G o σ S X fun x S1 => mTy m x S1 ∧ wpEs W G es σ S1 X fun ds S2 => pM m x ds S2 Q
  | .ix a i, σ, S, X, Q => wpE W G a σ S X fun x S1 => wpE W G i σ S1 X fun y S2 => pIx x y S2 Q
  | .sl a lo hi, σ, S, X, Q => wpE W G a σ S X fun x S1 => wpEs W G lo σ S1 X fun l S2 => ∃ i, partOf l = some i ∧ wpEs W G hi σ S2 X fun h S3 => ∃ j, partOf h = some j ∧ pSl x i j S3 Q
  | .lc own t k it c elt, σ, S, X, Q => wpEs W G it σ S X fun xs S1 => pItK k xs S1 fun items chk =>
      wpLC chk (fun x S2 R => wpTg t x (wipeD σ own) fun σ2 => wpE W G c σ2 S2 X fun d S3 => ∃ b, d = .bl b ∧ if b = true then wpE W G elt σ2 S3 X (fun y S4 => R (some y) S4) else R none S3) items [] S1
        fun row S5 => pNew (.lst row) S5 Q
def wpEs (W : Callee) (G : Str → Option Str) : List E → Sl → Sto → XPost → (List D → Sto → Prop) → Prop
  | [], _, S, _, Q => Q [] S
  | e :: es, σ, S, X, Q => wpE W G e σ S X fun d S1 => wpEs W G es σ S1 X fun ds S2 => Q (d :: ds) S2
end
/-! ### statements -/
def wpWhile (test : Sl → Sto → (Bool → Sto → Prop) → Prop) (body : En → Sl → Sto → Prop) (N : En) (σ : Sl) (S : Sto) : Prop :=
  ∃ I : Nat → Sl → Sto → Prop, (∃ m, I m σ S) ∧ ∀ m σ S, I m σ S → test σ S fun b S1 =>
    if b = true then body { N with nx := fun σ' S' => ∃ m', m' < m ∧ I m' σ' S', ct := fun σ' S' => ∃ m', m' < m ∧ I m' σ' S', bk := N.nx } σ S1 else N.nx σ S1
/-- name op= e, of whole numbers -/
def pAug (o : Operator) (x y : D) (Q : D → Prop) : Prop := match o with
  | .Add => ∃ i j, x = .int i ∧ y = .int j ∧ Q (.int (i + j))
  | .Sub => ∃ i j, x = .int i ∧ y = .int j ∧ Q (.int (i - j))
  | _ => False
/-- what a raise hands over: names and constants alone -/
def plainOf : E → Sl → Option D
  | .v i, σ => (σ[i]?).join
  | .int i, _ => some (.int i)
  | .str x, _ => some (.str x)
  | _, _ => none
def plainsOf : List E → Sl → Option (List D)
  | [], _ => some []
  | e :: es, σ => match plainOf e σ, plainsOf es σ with
    | some d, some ds => some (d :: ds)
    | _, _ => none
mutual
def wpS (W : Callee) (G : Str → Option Str) : Sm → En → Sl → Sto → Prop
  | .asg t e, N, σ, S => wpE W G e σ S N.ex fun d S1 => wpTg t d σ fun σ1 => N.nx σ1 S1
  | .set o i e, N, σ, S => wpE W G e σ S N.ex fun d S1 => wpE W G o σ S1 N.ex fun x S2 => wpE W G i σ S2 N.ex fun y S3 => pSet x y d S3 fun S4 => N.nx σ S4
  | .aug i o e, N, σ, S => ∃ x, σ[i]? = some (some x) ∧ wpE W G e σ S N.ex fun y S1 => pAug o x y fun d => N.nx (σ.set i (some d)) S1
  | .ex e, N, σ, S => wpE W G e σ S N.ex fun _ S1 => N.nx σ S1
  | .ret e, N, σ, S => wpE W G e σ S N.ex N.rt
  | .retN, N, _, S => N.rt .non S
  | .ite c a b, N, σ, S => wpE W G c σ S N.ex fun d S1 => ∃ k, d = .bl k ∧ if k = true then wpB W G a N σ S1 else wpB W G b N σ S1
  | .loop t k it b, N, σ, S => wpEs W G it σ S N.ex fun xs S1 => pItK k xs S1 fun items chk => wpFor chk (fun x N' σ' S' => wpTg t x σ' fun σ2 => wpB W G b N' σ2 S') items N σ S1
  | .whl c b, N, σ, S => wpWhile (fun σ S Q => wpE W G c σ S N.ex fun d S1 => ∃ k, d = .bl k ∧ Q k S1) (fun N' σ' S' => wpB W G b N' σ' S') N σ S
  | .brk, N, σ, S => N.bk σ S
  | .cnt, N, σ, S => N.ct σ S
  | .pass, N, σ, S => N.nx σ S
  | .raise x es, N, σ, S => ∃ ds, plainsOf es σ = some ds ∧ N.ex x ds S
def wpB (W : Callee) (G : Str → Option Str) : List Sm → En → Sl → Sto → Prop
  | [], N, σ, S => N.nx σ S
  | s :: r, N, σ, S => wpS W G s { N with nx := wpB W G r N } σ S
end
/-! ### calls, by levels -/
def startD (n : Nat) (ds : List D) : Sl := ds.map some ++ List.replicate (n - ds.length) none
def W (F : Str → Option Fn) (G : Str → Option Str) : Nat → Callee
  | 0 => fun _ _ _ _ _ => False
  | k + 1 => fun f ds S X Q => ∃ fn, F f = some fn ∧ ds.length = fn.ps ∧ wpB (W F G k) G fn.body { nx := fun _ S' => Q .non S', rt := Q, ex := X } (startD fn.n ds) S
end Mp

namespace Mp
open PySem

/-! ## from the model's text to the language -/
def slotOf : List Str → Str → Nat → Option Nat
  | [], _, _ => none
  | y :: r, x, i => if y = x then some i else slotOf r x (i + 1)
/-- a name: a slot, or a name of the module -/
def nameOf (N : List Str) (sc : Scope) (x : Str) : Option (Option Nat) :=
  if x = "__debug__" ∨ x = "__classdict__" ∨ x = "__name__" then none else
  match sc.names.lookup x with
  | some .local => (slotOf N x 0).map some
  | some .cell => (slotOf N x 0).map some
  | some .free => (slotOf N x 0).map some
  | some .globalImplicit => some none
  | _ => none
def isGl (sc : Scope) (x : Str) : Bool := decide (sc.names.lookup x = some .globalImplicit)
def Bt.nm : Bt → Str
  | .len => "len" | .int => "int" | .tuple => "tuple" | .list => "list" | .sum => "sum" | .max => "max" | .min => "min" | .any => "any"
  | .all => "all" | .repr => "repr" | .abs => "abs" | .str => "str"
def allBt : List Bt := [.len, .int, .tuple, .list, .sum, .max, .min, .any, .all, .repr, .abs, .str]
def btOf (x : Str) : Option Bt := allBt.find? fun b => decide (x = b.nm)
def Ty.nm : Ty → Str
  | .int => "int" | .bool => "bool" | .str => "str" | .tuple => "tuple" | .list => "list" | .dict => "dict"
def allTy : List Ty := [.int, .bool, .str, .tuple, .list, .dict]
def tyOf? (x : Str) : Option Ty := allTy.find? fun b => decide (x = b.nm)
def Mt.nm : Mt → Str
  | .append => "append" | .extend => "extend" | .pop => "pop" | .get => "get"
def allMt : List Mt := [.append, .extend, .pop]
def mtOf (x : Str) : Option Mt := allMt.find? fun b => decide (x = b.nm)
/-- the names of the built-ins: no def of the program bears them -/
def bltNames : List Str := ["len", "int", "tuple", "list", "sum", "max", "min", "any", "all", "repr", "abs", "str", "isinstance", "bool", "dict", "range", "zip"]
def ownOf (N : List Str) (scope : Scope) : List (Str × Nat) :=
  scope.names.filterMap fun y => if y.2 = .local ∨ y.2 = .cell then (slotOf N y.1 0).map fun i => (y.1, i) else none
def opOk : Operator → Bool
  | .Add | .Sub | .Mult | .Mod | .FloorDiv | .Pow => true
  | _ => false
/-- a name that is stored -/
def storeOf (N : List Str) (sc : Scope) : Expr → Option Nat
  | .Name x _ => match sc.names.lookup x with
    | some .local => slotOf N x 0
    | some .cell => slotOf N x 0
    | _ => none
  | _ => none
def storesOf (N : List Str) (sc : Scope) : List Expr → Option (List Nat)
  | [] => some []
  | e :: es => match storeOf N sc e, storesOf N sc es with
    | some i, some is => some (i :: is)
    | _, _ => none
def trTg (N : List Str) (sc : Scope) : Expr → Option Tg
  | .Tuple es _ _ => (storesOf N sc es).map .tup
  | e => (storeOf N sc e).map .one
def Tg.slots : Tg → List Nat
  | .one i => [i]
  | .tup is => is
/-- a plain subscript -/
def plainIx : Expr → Bool
  | .Slice _ _ _ _ => false
  | _ => true
/-- f(), as a receiver -/
def call0 : Expr → Bool
  | .Call (.Name _ _) [] [] _ => true
  | _ => false
mutual
def trE (N L : List Str) : Nat → Scope → Expr → Option E
  | 0, _, _ => none
  | n + 1, sc, e => match e with
    | .Constant .none _ _ => some .non
    | .Constant (.bool b) _ _ => some (.bl b)
    | .Constant (.int i) _ _ => some (.int i)
    | .Constant (.str x) _ _ => some (.str x)
    | .Name x _ => match nameOf N sc x with
      | some (some i) => some (.v i)
      | some none => some (.g x)
      | none => none
    | .Tuple es _ _ => if es.length ≤ 100 then (trEs N L n sc es).map .tup else none
    | .List es _ => if es.length ≤ 100 then (trEs N L n sc es).map .lst else none
    | .Dict [] [] _ => some .dnew
    | .BinOp a o b _ => match opOk o, trE N L n sc a, trE N L n sc b with
      | true, some x, some y => some (.bin o x y)
      | _, _, _ => none
    | .UnaryOp .USub a _ => (trE N L n sc a).map .neg
    | .UnaryOp .Not a _ => (trE N L n sc a).map fun x => .not (.tru x)
    | .BoolOp o es _ => trV N L n sc o es
    | .Compare a [o] [b] _ => match behindInMarks o b, trE N L n sc a, trE N L n sc b with
      | false, some x, some y => some (.cmp o x y)
      | _, _, _ => none
    | .Compare a [o, p] [b, c] _ => match behindInMarks p c, trE N L n sc a, trE N L n sc b, trE N L n sc c with
      | false, some x, some y, some z => some (.cmp2 o p x y z)
      | _, _, _, _ => none
    | .IfExp c a b _ => match trT N L n sc c, trE N L n sc a, trE N L n sc b with
      | some x, some y, some z => some (.ite x y z)
      | _, _, _ => none
    | .Call (.Name f _) es [] _ =>
      if isGl sc f = false ∨ f = "__debug__" ∨ f = "__name__" then none else
      if f = "isinstance" then match es with
        | [a, .Name t _] => match isGl sc t, trE N L n sc a, tyOf? t with
          | true, some x, some ty => some (.isi x ty)
          | _, _, _ => none
        | _ => none
      else match btOf f with
      | some b => match es with
        | [] => none
        | e :: r => (trEs N L n sc (e :: r)).map fun l => .blt b l
      | none => if f ∈ bltNames ∨ f ∉ L then none else (trEs N L n sc es).map fun l => .call f l
    | .Call (.Attribute o m ap) es [] cp => match ap.endLine == cp.line && !call0 o, mtOf m, trE N L n sc o, trEs N L n sc es with
      | true, some mt, some x, some l => if es.length ≤ 10 then some (.mth mt x l) else none
      | _, _, _, _ => none
    | .Subscript a (.Slice lo hi none _) _ => match trE N L n sc a, trO N L n sc lo, trO N L n sc hi with
      | some x, some l, some h => some (.sl x l h)
      | _, _, _ => none
    | .Subscript a i _ => match plainIx i, trE N L n sc a, trE N L n sc i with
      | true, some x, some y => some (.ix x y)
      | _, _, _ => none
    | .ListComp elt [⟨tg, it, ifs, 0⟩] scope _ =>
      let own := ownOf N scope
      let inn := L2.relS scope sc
      match L2.blkC N sc scope own, trTg N scope tg, trI N L n sc it, trC N L n inn ifs, trE N L n inn elt with
      | true, some t, some (k, l), some c, some x => if t.slots.all (fun i => decide (i ∈ own.map (·.2))) = true then some (.lc (own.map (·.2)) t k l c x) else none
      | _, _, _, _, _ => none
    | _ => none
def trV (N L : List Str) : Nat → Scope → BoolOp → List Expr → Option E
  | 0, _, _, _ => none
  | n + 1, sc, o, es => match es with
    | [] => none
    | [a] => trE N L n sc a
    | a :: r => match trE N L n sc a, trV N L n sc o r with
      | some x, some y => some (match o with | .And => .and x y | .Or => .or x y)
      | _, _ => none
def trT (N L : List Str) : Nat → Scope → Expr → Option E
  | 0, _, _ => none
  | n + 1, sc, e => match e with
    | .BoolOp o es _ => trW N L n sc o es
    | .UnaryOp .Not a _ => (trT N L n sc a).map .not
    | .IfExp _ _ _ _ => none
    | .Compare a ops bs p => match ops with
      | [_] => trE N L n sc (.Compare a ops bs p)
      | [_, _] => trE N L n sc (.Compare a ops bs p)
      | _ => none
    | e => (trE N L n sc e).map .tru
def trW (N L : List Str) : Nat → Scope → BoolOp → List Expr → Option E
  | 0, _, _, _ => none
  | n + 1, sc, o, es => match es with
    | [] => none
    | [a] => trT N L n sc a
    | a :: r => match trT N L n sc a, trW N L n sc o r with
      | some x, some y => some (match o with | .And => .and x y | .Or => .or x y)
      | _, _ => none
def trEs (N L : List Str) : Nat → Scope → List Expr → Option (List E)
  | 0, _, _ => none
  | n + 1, sc, es => match es with
    | [] => some []
    | .Starred _ _ :: _ => none
    | e :: r => match trE N L n sc e, trEs N L n sc r with
      | some x, some l => some (x :: l)
      | _, _ => none
def trO (N L : List Str) : Nat → Scope → Option Expr → Option (List E)
  | 0, _, _ => none
  | n + 1, sc, o => match o with
    | none => some []
    | some e => (trE N L n sc e).map fun x => [x]
def trC (N L : List Str) : Nat → Scope → List Expr → Option E
  | 0, _, _ => none
  | n + 1, sc, l => match l with
    | [] => some (.bl true)
    | [c] => trT N L n sc c
    | _ => none
def trI (N L : List Str) : Nat → Scope → Expr → Option (Ik × List E)
  | 0, _, _ => none
  | n + 1, sc, e => match e with
    | .Call (.Name f _) [a] [] _ => if f = "range" then (if isGl sc f = true then (trEs N L n sc [a]).map fun l => (.rng, l) else none) else (trE N L n sc e).map fun x => (.val, [x])
    | .Call (.Name f _) [a, b] [] _ => if f = "range" then (if isGl sc f = true then (trEs N L n sc [a, b]).map fun l => (.rng, l) else none) else (trE N L n sc e).map fun x => (.val, [x])
    | .Set _ _ _ => none
    | e => (trE N L n sc e).map fun x => (.val, [x])
end
/-- a comprehension -/
def isLc : Expr → Bool
  | .ListComp _ _ _ _ => true
  | .SetComp _ _ _ _ => true
  | .DictComp _ _ _ _ _ => true
  | _ => false
mutual
def trS (N L : List Str) : Nat → Scope → Stmt → Option Sm
  | 0, _, _ => none
  | n + 1, sc, st => match st with
    | .Assign [.Name y py] (.ListComp elt gs scope p) sp =>
      match storeOf N sc (.Name y py), trE N L n sc (.ListComp elt gs scope p) with
      | some i, some x =>
        -- its name is a plain local, on the comprehension's line, not one of its own names; or it is a cell
        if sc.names.lookup y = some .cell ∨ (scope.names.any fun y' => y'.1 == y && (y'.2 == .local || y'.2 == .cell)) = true ∨
          (sc.names.lookup y = some .local ∧ (py.line == p.line) = true ∧ (p.line == sp.line) = true ∧ (scope.names.any fun y' => y'.1 == y && (y'.2 == .local || y'.2 == .cell)) = false) then some (.asg (.one i) x) else none
      | _, _ => none
    | .Assign [.Subscript o i _] e _ => match isLc e, plainIx i, trE N L n sc e, trE N L n sc o, trE N L n sc i with
      | false, true, some x, some y, some z => some (.set y z x)
      | _, _, _, _, _ => none
    | .Assign [.Tuple es k p] e _ => match (match e with | .Tuple .. => true | _ => false), isLc e, trTg N sc (.Tuple es k p), trE N L n sc e with
      | false, false, some t, some x => some (.asg t x)
      | _, _, _, _ => none
    | .Assign [.Name y py] e _ => match isLc e, storeOf N sc (.Name y py), trE N L n sc e with
      | false, some i, some x => some (.asg (.one i) x)
      | _, _, _ => none
    | .AugAssign (.Name y py) o e _ => match decide (o = .Add) || decide (o = .Sub), storeOf N sc (.Name y py), trE N L n sc e with
      | true, some i, some x => some (.aug i o x)
      | _, _, _ => none
    | .Expr e _ => match isLc e, trE N L n sc e with
      | false, some x => some (.ex x)
      | _, _ => none
    | .Return none _ => some .retN
    | .Return (some e) _ => (trE N L n sc e).map .ret
    | .If c a b _ => match trT N L n sc c, trB N L n sc a, trB N L n sc b with
      | some x, some y, some z => some (.ite x y z)
      | _, _, _ => none
    | .For tg it b [] _ => match trTg N sc tg, trI N L n sc it, trB N L n sc b with
      | some t, some (k, l), some y => some (.loop t k l y)
      | _, _, _ => none
    | .While c b [] _ => match trT N L n sc c, trB N L n sc b with
      | some x, some y => some (.whl x y)
      | _, _ => none
    | .Break _ => some .brk
    | .Continue _ => some .cnt
    | .Pass _ => some .pass
    | .Raise (some (.Call (.Name x _) es [] _)) none _ => (trEs N L n sc es).map fun l => .raise x l
    | _ => none
def trB (N L : List Str) : Nat → Scope → List Stmt → Option (List Sm)
  | 0, _, _ => none
  | n + 1, sc, l => match l with
    | [] => some []
    | s :: r => match trS N L n sc s, trB N L n sc r with
      | some x, some y => some (x :: y)
      | _, _ => none
end
/-- the names of a def by slots: the parameters, then what else is local -/
def namesOf (ps : List Str) (sc : Scope) (body : List Str) : List Str := ps ++ body
end Mp

namespace Mp
open PySem L2

/-! ## what stands in the model for a value, a store, the slots -/
/-- the script: known to its object, or an object of the module -/
def ScrAt (K : PySem.W.Frag) (H : Hp) (p : Addr) (xs : List V) : Prop :=
  (∃ o, H p = some (.frz o (.lst xs))) ∨
    ∃ (o : Obj) (its : Array Value) (n : Nat), K.lookup p = some o ∧ o.cls = .type "list" ∧ o.dict = none ∧ o.data = .seq its n ∧ its.size ≤ sizeLine ∧ Vals xs its.toList
theorem ScrAt.sq {K : PySem.W.Frag} {H : Hp} {p : Addr} {xs : List V} (h : ScrAt K H p xs) : SqL K H p xs := h.elim (fun z => .inl (.inr z)) .inr
mutual
inductive RD (K : PySem.W.Frag) (H : Hp) : D → V → Prop
  | non : RD K H .non .non
  | bl (b : Bool) : RD K H (.bl b) (.bl b)
  | int (i : Int) : RD K H (.int i) (.int i)
  | str (x : Str) : RD K H (.str x) (.str x)
  | tup {p : Addr} {ds : List D} {vs : List V} : H p = some (.tup vs) → RDs K H ds vs → RD K H (.tup ds) (.ref p)
  | scr {p : Addr} {ns : List Int} : ScrAt K H p (ns.map V.int) → RD K H (.scr ns) (.ref p)
  | ref (a : Addr) : RD K H (.ref a) (.ref a)
inductive RDs (K : PySem.W.Frag) (H : Hp) : List D → List V → Prop
  | nil : RDs K H [] []
  | cons {d : D} {v : V} {ds : List D} {vs : List V} : RD K H d v → RDs K H ds vs → RDs K H (d :: ds) (v :: vs)
end
def RKv (K : PySem.W.Frag) (H : Hp) : List (Key × D) → List (Key × V) → Prop := Paired fun (p : Key × D) (q : Key × V) => p.1 = q.1 ∧ RD K H p.2 q.2
def RO (K : PySem.W.Frag) (H : Hp) (a : Addr) : Ob → Prop
  | .lst ds => ∃ vs, H a = some (.lst vs) ∧ RDs K H ds vs
  | .dic kvs => ∃ ls, H a = some (.dK ls) ∧ RKv K H kvs ls
  | .lck kvs => ∃ o ls, H a = some (.frz o (.dK ls)) ∧ RKv K H kvs ls
def RS (K : PySem.W.Frag) (S : Sto) (H : Hp) : Prop := ∀ a o, S a = some o → RO K H a o
/-- what the store does not hold stays as it was, and stays outside -/
def Fr (S : Sto) (H : Hp) (S' : Sto) (H' : Hp) : Prop := ∀ b o, S b = none → H b = some o → S' b = none ∧ H' b = some o
def RSl (K : PySem.W.Frag) (H : Hp) (σ : Sl) (τ : St) : Prop := σ.length = τ.length ∧ ∀ (i : Nat) (d : D), σ[i]? = some (some d) → ∃ v, τ[i]? = some (some v) ∧ RD K H d v

section
variable {K : PySem.W.Frag} {H H1 H2 H' : Hp} {S S1 S2 S' : Sto}
theorem Fr.refl : Fr S H S H := fun _ _ h h' => ⟨h, h'⟩
theorem Fr.trans (a : Fr S H S1 H1) (b : Fr S1 H1 S2 H2) : Fr S H S2 H2 := fun c o h h' => b c o (a c o h h').1 (a c o h h').2
theorem RS.notup (r : RS K S H) {p : Addr} {vs : List V} (h : H p = some (.tup vs)) : S p = none := by
  cases e : S p with
  | none => rfl
  | some o =>
    have q := r p o e
    cases o with
    | lst ds => obtain ⟨_, z, _⟩ := q; rw [h] at z; cases z
    | dic ds => obtain ⟨_, z, _⟩ := q; rw [h] at z; cases z
    | lck ds => obtain ⟨_, _, z, _⟩ := q; rw [h] at z; cases z
theorem RS.nofrz (r : RS K S H) {p : Addr} {o : Obj} {vs : List V} (h : H p = some (.frz o (.lst vs))) : S p = none := by
  cases e : S p with
  | none => rfl
  | some o =>
    have q := r p o e
    cases o with
    | lst ds => obtain ⟨_, z, _⟩ := q; rw [h] at z; cases z
    | dic ds => obtain ⟨_, z, _⟩ := q; rw [h] at z; cases z
    | lck ds => obtain ⟨_, _, z, _⟩ := q; rw [h] at z; cases z
theorem RS.fresh (r : RS K S H) {p : Addr} (h : H p = none) : S p = none := by
  cases e : S p with
  | none => rfl
  | some o =>
    have q := r p o e
    cases o with
    | lst ds => obtain ⟨_, z, _⟩ := q; rw [h] at z; cases z
    | dic ds => obtain ⟨_, z, _⟩ := q; rw [h] at z; cases z
    | lck ds => obtain ⟨_, _, z, _⟩ := q; rw [h] at z; cases z
/-- tuples and the script stay -/
def Stay (H H' : Hp) : Prop := (∀ p vs, H p = some (.tup vs) → H' p = some (.tup vs)) ∧ (∀ p o vs, H p = some (.frz o (.lst vs)) → H' p = some (.frz o (.lst vs)))
theorem Fr.stay (f : Fr S H S' H') (r : RS K S H) : Stay H H' := ⟨fun p vs h => (f p _ (r.notup h) h).2, fun p o vs h => (f p _ (r.nofrz h) h).2⟩
mutual
theorem RD.stay (s : Stay H H') : ∀ {d : D} {v : V}, RD K H d v → RD K H' d v
  | _, _, .non => .non
  | _, _, .bl b => .bl b
  | _, _, .int i => .int i
  | _, _, .str x => .str x
  | _, _, .tup h r => .tup (s.1 _ _ h) (RDs.stay s r)
  | _, _, .scr h => .scr (h.elim (fun ⟨o, z⟩ => .inl ⟨o, s.2 _ _ _ z⟩) .inr)
  | _, _, .ref a => .ref a
theorem RDs.stay (s : Stay H H') : ∀ {ds : List D} {vs : List V}, RDs K H ds vs → RDs K H' ds vs
  | _, _, .nil => .nil
  | _, _, .cons a b => .cons (RD.stay s a) (RDs.stay s b)
end
theorem RKv.stay (s : Stay H H') {kvs : List (Key × D)} {ls : List (Key × V)} (r : RKv K H kvs ls) : RKv K H' kvs ls := Paired.mapP r fun _ _ z => ⟨z.1, z.2.stay s⟩
theorem RSl.stay (s : Stay H H') {σ : Sl} {τ : St} (r : RSl K H σ τ) : RSl K H' σ τ := ⟨r.1, fun i d h => let ⟨v, e, q⟩ := r.2 i d h; ⟨v, e, q.stay s⟩⟩
theorem RO.stay (s : Stay H H') {a : Addr} {o : Ob} (e : H' a = H a) (r : RO K H a o) : RO K H' a o := by
  cases o with
  | lst ds => obtain ⟨vs, z, q⟩ := r; exact ⟨vs, e.trans z, q.stay s⟩
  | dic ds => obtain ⟨vs, z, q⟩ := r; exact ⟨vs, e.trans z, q.stay s⟩
  | lck ds => obtain ⟨o, vs, z, q⟩ := r; exact ⟨o, vs, e.trans z, q.stay s⟩
/-- a new object outside the store -/
theorem stay_new {p : Addr} (h : H p = none) (o : HO) : Stay H (upd H p o) := ⟨fun q vs z => by rw [upd_ne (ne_of_none z h)]; exact z, fun q ob vs z => by rw [upd_ne (ne_of_none z h)]; exact z⟩
theorem RS.some_of (r : RS K S H) {a : Addr} {o : Ob} (h : S a = some o) : ∃ u, H a = some u := by
  have q := r a o h
  cases o with
  | lst ds => obtain ⟨vs, z, _⟩ := q; exact ⟨_, z⟩
  | dic ds => obtain ⟨vs, z, _⟩ := q; exact ⟨_, z⟩
  | lck ds => obtain ⟨o, vs, z, _⟩ := q; exact ⟨_, z⟩
theorem RS.out (r : RS K S H) {p : Addr} (h : H p = none) (o : HO) : RS K S (upd H p o) := fun a u e => by
  obtain ⟨w, z⟩ := r.some_of e
  exact (r a u e).stay (stay_new h o) (upd_ne (ne_of_none z h))
theorem Fr.out {p : Addr} (h : H p = none) (o : HO) : Fr S H S (upd H p o) := fun b u e z => ⟨e, by rw [upd_ne (ne_of_none z h)]; exact z⟩
/-- a new object of the store -/
theorem RS.new (r : RS K S H) {p : Addr} (h : H p = none) {o : HO} {u : Ob} (q : RO K (upd H p o) p u) : RS K (S.put p u) (upd H p o) := fun a w e => by
  by_cases ha : a = p
  · subst ha; rw [put_same] at e; cases e; exact q
  · rw [put_ne ha] at e; exact r.out h o a w e
theorem Fr.new {p : Addr} (h : H p = none) (o : HO) (u : Ob) : Fr S H (S.put p u) (upd H p o) := fun b w e z => by
  have n := ne_of_none z h
  exact ⟨by rw [put_ne n]; exact e, by rw [upd_ne n]; exact z⟩
/-- an object of the store is changed -/
theorem stay_set (r : RS K S H) {p : Addr} {u0 : Ob} (e : S p = some u0) (o : HO) : Stay H (upd H p o) :=
  ⟨fun q vs z => by rw [upd_ne (fun c => by subst c; rw [r.notup z] at e; cases e)]; exact z, fun q ob vs z => by rw [upd_ne (fun c => by subst c; rw [r.nofrz z] at e; cases e)]; exact z⟩
theorem RS.set (r : RS K S H) {p : Addr} {u0 : Ob} (e : S p = some u0) {o : HO} {u : Ob} (q : RO K (upd H p o) p u) : RS K (S.put p u) (upd H p o) := fun a w z => by
  by_cases ha : a = p
  · subst ha; rw [put_same] at z; cases z; exact q
  · rw [put_ne ha] at z
    exact (r a w z).stay (stay_set r e o) (upd_ne ha)
theorem Fr.set {p : Addr} {u0 : Ob} (e : S p = some u0) (o : HO) (u : Ob) : Fr S H (S.put p u) (upd H p o) := fun b w z y => by
  have n : b ≠ p := fun c => by subst c; rw [e] at z; cases z
  exact ⟨by rw [put_ne n]; exact z, by rw [upd_ne n]; exact y⟩
theorem RS.lst (r : RS K S H) {a : Addr} {ds : List D} (e : S a = some (.lst ds)) : ∃ vs, H a = some (.lst vs) ∧ RDs K H ds vs := r a _ e
theorem RDs.length : ∀ {ds : List D} {vs : List V}, RDs K H ds vs → ds.length = vs.length
  | _, _, .nil => rfl
  | _, _, .cons _ r => congrArg (· + 1) (RDs.length r)
theorem RDs.append : ∀ {ds es : List D} {vs us : List V}, RDs K H ds vs → RDs K H es us → RDs K H (ds ++ es) (vs ++ us)
  | _, _, _, _, .nil, s => s
  | _, _, _, _, .cons a b, s => .cons a (RDs.append b s)
theorem RDs.get : ∀ {ds : List D} {vs : List V} {i : Nat} {d : D}, RDs K H ds vs → ds[i]? = some d → ∃ v, vs[i]? = some v ∧ RD K H d v
  | _, _, _, _, .nil, e => by simp at e
  | _, _, 0, _, .cons a b, e => by simp at e; subst e; exact ⟨_, rfl, a⟩
  | _, _, i + 1, d, .cons a b, e => by
    obtain ⟨v, h1, h2⟩ := RDs.get (i := i) (d := d) b (by simpa using e)
    exact ⟨v, by simpa using h1, h2⟩
theorem RDs.getV : ∀ {ds : List D} {vs : List V} {i : Nat} {v : V}, RDs K H ds vs → vs[i]? = some v → ∃ d, ds[i]? = some d ∧ RD K H d v
  | _, _, _, _, .nil, e => by simp at e
  | _, _, 0, _, .cons a b, e => by simp at e; subst e; exact ⟨_, rfl, a⟩
  | _, _, i + 1, d, .cons a b, e => by
    obtain ⟨v, h1, h2⟩ := RDs.getV (i := i) (v := d) b (by simpa using e)
    exact ⟨v, by simpa using h1, h2⟩
theorem RDs.drop : ∀ {ds : List D} {vs : List V} (n : Nat), RDs K H ds vs → RDs K H (ds.drop n) (vs.drop n)
  | _, _, 0, r => r
  | _, _, _ + 1, .nil => .nil
  | _, _, n + 1, .cons _ r => RDs.drop n r
theorem RDs.take : ∀ {ds : List D} {vs : List V} (n : Nat), RDs K H ds vs → RDs K H (ds.take n) (vs.take n)
  | _, _, 0, _ => .nil
  | _, _, _ + 1, .nil => .nil
  | _, _, n + 1, .cons a r => .cons a (RDs.take n r)
theorem RDs.set {x : D} {y : V} (q : RD K H x y) : ∀ {ds : List D} {vs : List V} (i : Nat), RDs K H ds vs → RDs K H (ds.set i x) (vs.set i y)
  | _, _, _, .nil => .nil
  | _, _, 0, .cons _ r => .cons q r
  | _, _, i + 1, .cons a r => .cons a (RDs.set q i r)
theorem RDs.rep {ds : List D} {vs : List V} (r : RDs K H ds vs) : ∀ n : Nat, RDs K H (List.replicate n ds).flatten (List.replicate n vs).flatten
  | 0 => .nil
  | n + 1 => by simp only [List.replicate_succ, List.flatten_cons]; exact r.append (RDs.rep r n)
theorem RDs.dropLast {ds : List D} {vs : List V} (r : RDs K H ds vs) : RDs K H ds.dropLast vs.dropLast := by
  rw [List.dropLast_eq_take, List.dropLast_eq_take, ← r.length]; exact r.take _
theorem RDs.ints : ∀ (ns : List Int), RDs K H (ns.map D.int) (ns.map V.int)
  | [] => .nil
  | n :: r => .cons (.int n) (RDs.ints r)
theorem RDs.intsOf : ∀ {ds : List D} {vs : List V} {ns : List Int}, RDs K H ds vs → Mp.intsOf ds = some ns → vs = ns.map V.int
  | _, _, ns, .nil, e => by cases e; rfl
  | _, _, ns, .cons (d := d) (ds := ds) a b, e => by
    cases a with
    | int i =>
      unfold Mp.intsOf at e
      cases q : Mp.intsOf ds with
      | none => rw [q] at e; cases e
      | some l => rw [q] at e; cases e; rw [RDs.intsOf b q]; rfl
    | _ => simp [Mp.intsOf] at e
theorem RDs.blsOf : ∀ {ds : List D} {vs : List V} {ns : List Bool}, RDs K H ds vs → Mp.blsOf ds = some ns → vs = ns.map V.bl
  | _, _, ns, .nil, e => by cases e; rfl
  | _, _, ns, .cons (d := d) (ds := ds) a b, e => by
    cases a with
    | bl i =>
      unfold Mp.blsOf at e
      cases q : Mp.blsOf ds with
      | none => rw [q] at e; cases e
      | some l => rw [q] at e; cases e; rw [RDs.blsOf b q]; rfl
    | _ => simp [Mp.blsOf] at e
theorem RSl.set {σ : Sl} {τ : St} (r : RSl K H σ τ) {d : D} {v : V} (q : RD K H d v) (i : Nat) : RSl K H (σ.set i (some d)) (τ.set i (some v)) := by
  refine ⟨by simp [r.1], fun j e h => ?_⟩
  by_cases hj : i = j
  · subst hj
    by_cases hl : i < σ.length
    · rw [List.getElem?_set_self hl] at h; cases h
      exact ⟨v, by rw [List.getElem?_set_self (by rw [← r.1]; exact hl)], q⟩
    · rw [List.getElem?_eq_none (by simp; omega)] at h; cases h
  · rw [List.getElem?_set_ne hj] at h
    obtain ⟨w, z, q'⟩ := r.2 j e h
    exact ⟨w, by rw [List.getElem?_set_ne hj]; exact z, q'⟩
theorem RSl.unset {σ : Sl} {τ : St} (r : RSl K H σ τ) (i : Nat) : RSl K H (σ.set i none) (τ.set i none) := by
  refine ⟨by simp [r.1], fun j e h => ?_⟩
  by_cases hj : i = j
  · subst hj
    by_cases hl : i < σ.length
    · rw [List.getElem?_set_self hl] at h; cases h
    · rw [List.getElem?_eq_none (by simp; omega)] at h; cases h
  · rw [List.getElem?_set_ne hj] at h
    obtain ⟨w, z, q'⟩ := r.2 j e h
    exact ⟨w, by rw [List.getElem?_set_ne hj]; exact z, q'⟩
theorem RSl.wipe {σ : Sl} {τ : St} (r : RSl K H σ τ) : ∀ vs : List Nat, RSl K H (wipeD σ vs) (L2.wipe τ vs)
  | [] => r
  | v :: vs => (RSl.wipe r vs).unset v
mutual
theorem Pd.dp (r : RS K S H) : ∀ {d : D} {v : V} {p : PyData}, Pd S d p → RD K H d v → Dp K H v p
  | _, _, _, .non, .non => .non
  | _, _, _, .bl b, .bl _ => .bl b
  | _, _, _, .int b, .int _ => .int b
  | _, _, _, .str b, .str _ => .str b
  | _, _, _, .tup h, .tup e q => .tup (.of e) (Pds.dp r h q)
  | _, _, _, .lst e h, .ref _ => by
    obtain ⟨vs, z, q⟩ := r.lst e
    exact .lst (.of z) (Pds.dp r h q)
theorem Pds.dp (r : RS K S H) : ∀ {ds : List D} {vs : List V} {ps : List PyData}, Pds S ds ps → RDs K H ds vs → DpAll K H vs ps
  | _, _, _, .nil, .nil => .nil
  | _, _, _, .cons a b, .cons c d => .cons (Pd.dp r a c) (Pds.dp r b d)
end
end
end Mp

namespace Mp
open PySem L2

/-! ## the operators -/
/-- what follows in the model, from what follows in the language -/
def Kp (K : PySem.W.Frag) (S : Sto) (H : Hp) (Q' : Post) (Q : VK) : Prop := ∀ d S' v H', Fr S H S' H' → RS K S' H' → RD K H' d v → Q' d S' → Q v H'
section
variable {K : PySem.W.Frag} {H H1 H2 H' : Hp} {S S1 S2 S' : Sto} {Q' : Post} {Q : VK}
theorem Kp.at (k : Kp K S H Q' Q) (r : RS K S H) {d : D} {v : V} (q : RD K H d v) (h : Q' d S) : Q v H := k d S v H .refl r q h
theorem Kp.on (k : Kp K S H Q' Q) (f : Fr S H S1 H1) : Kp K S1 H1 Q' Q := fun d S' v H' g => k d S' v H' (f.trans g)
/-- a new list -/
theorem Kp.lst (k : Kp K S H Q' Q) (r : RS K S H) {ds : List D} {vs : List V} (q : RDs K H ds vs) (h : pNew (.lst ds) S Q') : ∀ p, H p = none → Q (.ref p) (upd H p (.lst vs)) := fun p hp =>
  k _ _ _ _ (Fr.new hp (.lst vs) (.lst ds)) (r.new hp ⟨vs, upd_same, q.stay (stay_new hp _)⟩) (.ref p) (h p (r.fresh hp))
/-- a new tuple -/
theorem Kp.tup (k : Kp K S H Q' Q) (r : RS K S H) {ds : List D} {vs : List V} (q : RDs K H ds vs) (h : Q' (.tup ds) S) : ∀ p, H p = none → Q (.ref p) (upd H p (.tup vs)) := fun p hp =>
  k _ _ _ _ (Fr.out hp (.tup vs)) (r.out hp _) (.tup upd_same (q.stay (stay_new hp _))) h

def rAdd (K : PySem.W.Frag) : R2 := fun x y H Q => rI0 (fun i j => .int (i + j)) x y H Q ∨ (∃ i j, x = .str i ∧ y = .str j ∧ i.length + j.length ≤ sizeLine ∧ Q (.str (i ++ j)) H) ∨ rCatA K x y H Q ∨ rCat x y H Q
theorem op_addM {X : Cx} : OpR X (binaryOp .Add) (Mp.rAdd X.K) := op_add.or (op_add_str.or (op_catA.or op_cat))
theorem pAdd_ok (r : RS K S H) {x y : D} {v u : V} (rx : RD K H x v) (ry : RD K H y u) (k : Kp K S H Q' Q) (h : pAdd x y S Q') : Mp.rAdd K v u H Q := by
  cases rx with
  | int i =>
    cases ry with
    | int j => exact .inl ⟨i, j, rfl, rfl, k.at r (.int _) h⟩
    | _ => exact h.elim
  | str a =>
    cases ry with
    | str b => exact .inr (.inl ⟨a, b, rfl, rfl, h.1, k.at r (.str _) h.2⟩)
    | _ => exact h.elim
  | tup e q =>
    cases ry with
    | tup e' q' =>
      obtain ⟨hl, h⟩ := h
      rw [q.length, q'.length] at hl
      refine .inr (.inr (.inl ⟨_, _, _, _, rfl, rfl, .of e, .of e', hl, fun z => ?_, fun _ z => ?_, fun _ _ => k.tup r (q.append q') h⟩))
      · subst z; cases q; exact k.at r (.tup e' q') h
      · subst z; cases q'; rw [List.append_nil] at h; exact k.at r (.tup e q) h
    | _ => exact h.elim
  | ref p =>
    cases ry with
    | ref p' =>
      unfold pAdd at h
      dsimp only at h
      split at h
      · rename_i e e'
        obtain ⟨vs, z, q⟩ := r.lst e
        obtain ⟨vs', z', q'⟩ := r.lst e'
        refine .inr (.inr (.inr ⟨_, _, vs, vs', rfl, rfl, z, z', by rw [← q.length, ← q'.length]; exact h.1, k.lst r (q.append q') h.2⟩))
      · exact h.elim
    | _ => exact h.elim
  | _ => exact h.elim
def rMul (K : PySem.W.Frag) : R2 := fun x y H Q => (rI CMulW (fun i j => .int (i * j)) x y H Q ∨ rI CMul (fun i j => .int (i * j)) x y H Q) ∨ rRepT K x y H Q ∨ rRep x y H Q
theorem op_mulM {X : Cx} : OpR X (binaryOp .Mult) (Mp.rMul X.K) := (op_mulW.or op_mul).or (op_repT.or op_rep)
theorem pMul_ok (r : RS K S H) {x y : D} {v u : V} (rx : RD K H x v) (ry : RD K H y u) (k : Kp K S H Q' Q) (h : pMul x y S Q') : Mp.rMul K v u H Q := by
  cases rx with
  | int i =>
    cases ry with
    | int j =>
      obtain ⟨c, h⟩ := h
      rcases c with c | c
      · exact .inl (.inl ⟨i, j, rfl, rfl, c, k.at r (.int _) h⟩)
      · exact .inl (.inr ⟨i, j, rfl, rfl, c, k.at r (.int _) h⟩)
    | _ => exact h.elim
  | tup e q =>
    cases ry with
    | int j =>
      obtain ⟨h0, h1, h2, h3, h⟩ := h
      exact .inr (.inl ⟨_, j, _, rfl, rfl, .of e, fun z => by subst z; cases q; exact h0 rfl, h1, h2, by rw [← q.length]; exact h3, k.tup r (q.rep _) h⟩)
    | _ => exact h.elim
  | ref p =>
    cases ry with
    | int j =>
      unfold pMul at h
      dsimp only at h
      split at h
      · rename_i e
        obtain ⟨vs, z, q⟩ := r.lst e
        obtain ⟨h1, h2, h3, h⟩ := h
        exact .inr (.inr ⟨_, j, vs, rfl, rfl, z, h1, h2, by rw [← q.length]; exact h3, k.lst r (q.rep _) h⟩)
      · exact h.elim
    | _ => exact h.elim
  | _ => exact h.elim
def rBin (K : PySem.W.Frag) (o : Operator) : R2 := match o with
  | .Add => Mp.rAdd K
  | .Mult => Mp.rMul K
  | .Sub => rI0 fun i j => .int (i - j)
  | .Mod => rI (fun _ j => 0 < j) fun i j => .int (i % j)
  | .FloorDiv => rI CDivW fun i j => .int (i / j)
  | .Pow => rI CPow fun i j => .int (i ^ j.toNat)
  | _ => fun _ _ _ _ => False
theorem op_bin {X : Cx} {o : Operator} (h : opOk o = true) : OpR X (binaryOp o) (rBin X.K o) := by
  cases o <;> first | exact op_addM | exact op_mulM | exact op_sub | exact op_mod | exact op_fdivW | exact op_pow | cases h
theorem pBin_ok (r : RS K S H) {o : Operator} {x y : D} {v u : V} (rx : RD K H x v) (ry : RD K H y u) (k : Kp K S H Q' Q) (h : pBin o x y S Q') : rBin K o v u H Q := by
  cases o with
  | Add => exact pAdd_ok r rx ry k h
  | Mult => exact pMul_ok r rx ry k h
  | Sub => obtain ⟨i, j, rfl, rfl, h⟩ := h; cases rx; cases ry; exact ⟨i, j, rfl, rfl, k.at r (.int _) h⟩
  | Mod => obtain ⟨i, j, rfl, rfl, c, h⟩ := h; cases rx; cases ry; exact ⟨i, j, rfl, rfl, c, k.at r (.int _) h⟩
  | FloorDiv => obtain ⟨i, j, rfl, rfl, c, h⟩ := h; cases rx; cases ry; exact ⟨i, j, rfl, rfl, c, k.at r (.int _) h⟩
  | Pow => obtain ⟨i, j, rfl, rfl, c, h⟩ := h; cases rx; cases ry; exact ⟨i, j, rfl, rfl, c, k.at r (.int _) h⟩
  | _ => exact h.elim

/-! ### comparisons -/
theorem toV_of {d : D} {v : V} (h : RD K H d v) (f : d.flat = true) : v = d.toV ∧ flatV v = true := by
  cases h <;> first | exact ⟨rfl, rfl⟩ | cases f
theorem scal_ok {x y : D} {v u : V} (h : scalD x y = true) (rx : RD K H x v) (ry : RD K H y u) : scal v u = true ∧ v = x.toV ∧ u = y.toV := by
  cases rx <;> cases ry <;> first | exact ⟨rfl, rfl, rfl⟩ | cases h
theorem toVs_of : ∀ {ds : List D} {vs : List V}, RDs K H ds vs → ds.all D.flat = true → vs = ds.map D.toV ∧ vs.all flatV = true
  | _, _, .nil, _ => ⟨rfl, rfl⟩
  | _, _, .cons a b, f => by
    rw [List.all_cons, Bool.and_eq_true] at f
    obtain ⟨e1, f1⟩ := toV_of a f.1
    obtain ⟨e2, f2⟩ := toVs_of b f.2
    exact ⟨by rw [e1, e2]; rfl, by rw [List.all_cons, f1, f2]; rfl⟩
def rInM (K : PySem.W.Frag) (neg : Bool) : R2 := fun x y H Q =>
  (∃ i j, x = .str i ∧ y = .str j ∧ Q (.bl (if neg then !(!(Builtin.Str.occurrences j i 0 j.length 1).isEmpty) else !(Builtin.Str.occurrences j i 0 j.length 1).isEmpty)) H) ∨
  rIn K neg x y H Q ∨ ∃ d ds, Dp K H x d ∧ Dp K H y (.list ds) ∧ SeqAt.shaped d = true ∧ SeqAt.shaped (.list ds) = true ∧ Q (.bl (if neg then !ds.any fun z => PyData.eqv z d else ds.any fun z => PyData.eqv z d)) H
theorem op_inM {X : Cx} (hu : X.A.units + 65 < cLine) : OpR X (compareOp .In) (rInM X.K false) := op_in_str.or (op_in_seq.or (op_inD hu))
theorem op_ninM {X : Cx} (hu : X.A.units + 65 < cLine) : OpR X (compareOp .NotIn) (rInM X.K true) := op_notIn_str.or (op_notIn_seq.or (op_notInD hu))
theorem pIn_ok (r : RS K S H) {x y : D} {v u : V} (rx : RD K H x v) (ry : RD K H y u) {neg : Bool} {R : Bool → Prop} (k : ∀ b, R b → Q (.bl b) H) (h : pIn x y S fun b => R (if neg then !b else b)) : rInM K neg v u H Q := by
  cases ry with
  | str z =>
    obtain ⟨w, rfl, h⟩ := h
    cases rx
    exact .inl ⟨w, z, rfl, rfl, k _ h⟩
  | tup e q =>
    obtain ⟨f1, f2, h⟩ := h
    obtain ⟨e1, g1⟩ := toV_of rx f1
    obtain ⟨e2, g2⟩ := toVs_of q f2
    refine .inr (.inl ⟨_, _, rfl, .inr (.of e), g1, g2, ?_⟩)
    rw [e1, e2, inV, List.any_map]
    exact k _ h
  | ref a =>
    unfold pIn at h
    dsimp only at h
    split at h
    · rename_i e
      obtain ⟨vs, z, q⟩ := r.lst e
      rcases h with ⟨f1, f2, h⟩ | ⟨p, ps, h1, h2, s1, s2, h⟩
      · obtain ⟨e1, g1⟩ := toV_of rx f1
        obtain ⟨e2, g2⟩ := toVs_of q f2
        refine .inr (.inl ⟨_, _, rfl, .inl (.of z), g1, g2, ?_⟩)
        rw [e1, e2, inV, List.any_map]
        exact k _ h
      · exact .inr (.inr ⟨p, ps, Pd.dp r h1 rx, .lst (.of z) (Pds.dp r h2 q), s1, s2, k _ h⟩)
    · exact h.elim
  | _ => exact h.elim
def rCmp (K : PySem.W.Frag) (o : CmpOp) : R2 := match o with
  | .Eq => fun x y H Q => rEq x y H Q ∨ rEqD K x y H Q
  | .NotEq => fun x y H Q => rNe x y H Q ∨ rNeD K x y H Q
  | .Lt => rI0 fun i j => .bl (decide (i < j))
  | .LtE => rI0 fun i j => .bl (decide (i ≤ j))
  | .Gt => rI0 fun i j => .bl (decide (j < i))
  | .GtE => rI0 fun i j => .bl (decide (j ≤ i))
  | .Is => fun x y H Q => y = .non ∧ Q (.bl (decide (x = .non))) H
  | .IsNot => fun x y H Q => y = .non ∧ Q (.bl (!decide (x = .non))) H
  | .In => rInM K false
  | .NotIn => rInM K true
theorem op_cmp {X : Cx} (hu : X.A.units + 65 < cLine) (o : CmpOp) : OpR X (compareOp o) (rCmp X.K o) := by
  have hu' : X.A.units + 64 < cLine := by omega
  cases o <;> first | exact op_eq.or (op_eqD hu') | exact op_ne.or (op_neD hu') | exact op_lt | exact op_le | exact op_gt | exact op_ge | exact op_isN | exact op_notN | exact op_inM hu | exact op_ninM hu
theorem pCmp_ok (r : RS K S H) {o : CmpOp} {x y : D} {v u : V} (rx : RD K H x v) (ry : RD K H y u) {R : Bool → Prop} (k : ∀ b, R b → Q (.bl b) H) (h : pCmp o x y S R) : rCmp K o v u H Q := by
  cases o with
  | Eq =>
    rcases h with ⟨sc, h⟩ | ⟨p, q, h1, h2, s1, s2, h⟩
    · obtain ⟨e1, e2, e3⟩ := scal_ok sc rx ry
      subst e2 e3
      exact .inl ⟨e1, k _ h⟩
    · exact .inr ⟨p, q, Pd.dp r h1 rx, Pd.dp r h2 ry, s1, s2, k _ h⟩
  | NotEq =>
    rcases h with ⟨sc, h⟩ | ⟨p, q, h1, h2, s1, s2, h⟩
    · obtain ⟨e1, e2, e3⟩ := scal_ok sc rx ry
      subst e2 e3
      exact .inl ⟨e1, k _ h⟩
    · exact .inr ⟨p, q, Pd.dp r h1 rx, Pd.dp r h2 ry, s1, s2, k _ h⟩
  | Lt => obtain ⟨i, j, rfl, rfl, h⟩ := h; cases rx; cases ry; exact ⟨i, j, rfl, rfl, k _ h⟩
  | LtE => obtain ⟨i, j, rfl, rfl, h⟩ := h; cases rx; cases ry; exact ⟨i, j, rfl, rfl, k _ h⟩
  | Gt => obtain ⟨i, j, rfl, rfl, h⟩ := h; cases rx; cases ry; exact ⟨i, j, rfl, rfl, k _ h⟩
  | GtE => obtain ⟨i, j, rfl, rfl, h⟩ := h; cases rx; cases ry; exact ⟨i, j, rfl, rfl, k _ h⟩
  | Is =>
    obtain ⟨rfl, h⟩ := h
    cases ry
    refine ⟨rfl, k _ ?_⟩
    cases rx <;> exact h
  | IsNot =>
    obtain ⟨rfl, h⟩ := h
    cases ry
    refine ⟨rfl, k _ ?_⟩
    cases rx <;> exact h
  | In => exact pIn_ok (neg := false) r rx ry k h
  | NotIn => exact pIn_ok (neg := true) r rx ry k h

/-! ### truth, types -/
theorem pTru_ok (r : RS K S H) {x : D} {v : V} (rx : RD K H x v) {R : Bool → Prop} (h : pTru x S R) : ∃ k, TruV K v H k ∧ R k := by
  cases rx with
  | non => exact ⟨_, rfl, h⟩
  | bl b => exact ⟨_, rfl, h⟩
  | int i => exact ⟨_, rfl, h⟩
  | str z => exact ⟨_, ⟨h.1, rfl⟩, h.2⟩
  | tup e q => exact ⟨_, .inr (.inl ⟨_, .of e, rfl⟩), by cases q <;> exact h⟩
  | scr e => exact ⟨_, .inl ⟨_, e.sq, rfl⟩, by rename_i ns; cases ns <;> exact h⟩
  | ref a =>
    unfold pTru at h
    dsimp only at h
    split at h
    · rename_i e
      obtain ⟨vs, z, q⟩ := r.lst e
      exact ⟨_, .inl ⟨_, .of z, rfl⟩, by cases q <;> exact h⟩
    · rename_i e
      obtain ⟨vs, z, q⟩ := r _ _ e
      exact ⟨_, .inr (.inr ⟨_, z, rfl⟩), by cases q <;> exact h⟩
    · exact h.elim
theorem tyOf_ok (r : RS K S H) {x : D} {v : V} (rx : RD K H x v) {s : String} (h : tyOf x S = some s) : TyX K H v (.type s) := by
  cases rx with
  | non => cases h; exact .base .non
  | bl b => cases h; exact .base (.bl _)
  | int i => cases h; exact .base (.int _)
  | str z => cases h; exact .base (.str _)
  | tup e q => cases h; exact .base (.tup e)
  | scr e =>
    cases h
    rcases e with ⟨o, e⟩ | ⟨o, its, n, e, c, _⟩
    · exact .base (.frz e)
    · exact .kList e c
  | ref a =>
    unfold tyOf at h
    dsimp only at h
    split at h
    · rename_i e
      obtain ⟨vs, z, q⟩ := r.lst e
      cases h
      exact .base (.lst z)
    · rename_i e
      obtain ⟨vs, z, q⟩ := r _ _ e
      cases h
      exact .base (.dK z)
    · rename_i e
      obtain ⟨o, vs, z, q⟩ := r _ _ e
      cases h
      exact .fDict z
    · cases h
theorem kit_all (s : String) (hs : s = "NoneType" ∨ s = "bool" ∨ s = "int" ∨ s = "str" ∨ s = "tuple" ∨ s = "list" ∨ s = "dict") (t : Ty) : kitB s t.name = some (isTy s t) := by
  rcases hs with rfl | rfl | rfl | rfl | rfl | rfl | rfl <;> cases t <;> decide +kernel
theorem tyOf_names {x : D} {s : String} (h : tyOf x S = some s) : s = "NoneType" ∨ s = "bool" ∨ s = "int" ∨ s = "str" ∨ s = "tuple" ∨ s = "list" ∨ s = "dict" := by
  unfold tyOf at h
  split at h <;> first
    | (cases h; simp)
    | (split at h <;> first | (cases h; simp) | cases h)
theorem pIsi_ok (r : RS K S H) {x : D} {v : V} (rx : RD K H x v) {t : Ty} {R : Bool → Prop} (k : ∀ b, R b → Q (.bl b) H) (h : pIsi x t S R) : rIsi K [v, .ty t.name] H Q := by
  unfold pIsi at h
  split at h
  · rename_i s e
    exact ⟨v, .ty t.name, .type s, .type t.name, isTy s t, rfl, .ty _, tyOf_ok r rx e, kit_ty (kit_all s (tyOf_names e) t), k _ h⟩
  · exact h.elim
/-! ### items, slices -/
theorem pIx_ok (r : RS K S H) {x y : D} {v u : V} (rx : RD K H x v) (ry : RD K H y u) (k : Kp K S H Q' Q) (h : pIx x y S Q') : rIx K v u H Q := by
  have gets : ∀ {ds : List D} {vs : List V} {i : Int} {d : D}, RDs K H ds vs → atI ds i = some d → ∃ w, atI vs i = some w ∧ RD K H d w := fun {ds vs i d} q e => by
    unfold atI at e ⊢
    rw [← q.length]
    cases z : ixN ds.length i with
    | none => rw [z] at e; cases e
    | some j =>
      rw [z] at e
      exact q.get (i := j) (d := d) e
  cases rx with
  | tup e q =>
    obtain ⟨i, d, rfl, hd, h⟩ := h
    cases ry
    obtain ⟨w, hw, rw'⟩ := gets q hd
    exact .inr (.inl ⟨_, _, i, w, rfl, rfl, .of e, hw, k.at r rw' h⟩)
  | scr e =>
    rename_i ns
    obtain ⟨i, d, rfl, hd, h⟩ := h
    cases ry
    have hd' : atI (ns.map V.int) i = some (.int d) := by
      unfold atI at hd ⊢
      rw [List.length_map]
      cases z : ixN ns.length i with
      | none => rw [z] at hd; cases hd
      | some j =>
        rw [z] at hd
        show (ns.map V.int)[j]? = _
        have hd : ns[j]? = some d := hd
        rw [List.getElem?_map, hd]; rfl
    exact .inl ⟨_, _, i, .int d, rfl, rfl, e.sq, hd', k.at r (.int _) h⟩
  | str z =>
    obtain ⟨i, c, rfl, hz, hc, h⟩ := h
    cases ry
    exact .inr (.inr ⟨z, i, c, rfl, rfl, hz, hc, k.at r (.str _) h⟩)
  | ref a =>
    unfold pIx at h
    dsimp only at h
    split at h
    · rename_i e
      obtain ⟨vs, z, q⟩ := r.lst e
      obtain ⟨i, d, rfl, hd, h⟩ := h
      cases ry
      obtain ⟨w, hw, rw'⟩ := gets q hd
      exact .inl ⟨_, _, i, w, rfl, rfl, .of z, hw, k.at r rw' h⟩
    · exact h.elim
  | _ => exact h.elim
def rSl (K : PySem.W.Frag) : V → Option Int → Option Int → Hp → VK → Prop := fun x lo hi H Q => rSlA K x lo hi H Q ∨ rSlS x lo hi H Q ∨ rSlL K x lo hi H Q
theorem sl_all {X : Cx} : SlR X (Mp.rSl X.K) := sl_tupA.or (sl_str.or sl_list)
theorem RDs.cut {ds : List D} {vs : List V} (q : RDs K H ds vs) (lo hi : Option Int) : RDs K H (cutD ds lo hi) (cutV vs lo hi) := by
  unfold cutD cutV
  rw [← q.length]
  exact (q.drop _).take _
theorem cutD_whole {α : Type} (xs : List α) (lo hi : Option Int) (h : HT.sIx xs.length 0 lo = 0 ∧ HT.sIx xs.length xs.length hi = xs.length) : cutD xs lo hi = xs := by
  unfold cutD; rw [h.1, h.2]; simp
theorem pSl_ok (r : RS K S H) {x : D} {v : V} {lo hi : Option Int} (rx : RD K H x v) (k : Kp K S H Q' Q) (h : pSl x lo hi S Q') : Mp.rSl K v lo hi H Q := by
  cases rx with
  | tup e q =>
    refine .inl ⟨_, _, rfl, .of e, fun z => ?_, fun _ => k.tup r (q.cut lo hi) h⟩
    rw [← q.length] at z
    have h : Q' (.tup (cutD _ lo hi)) S := h
    rw [cutD_whole _ _ _ z] at h
    exact k.at r (.tup e q) h
  | str z => exact .inr (.inl ⟨z, rfl, h.1, k.at r (.str _) h.2⟩)
  | scr e =>
    rename_i ns
    refine .inr (.inr ⟨_, _, rfl, e.sq, ?_⟩)
    have z : cutV (ns.map V.int) lo hi = (cutD ns lo hi).map V.int := by
      unfold cutV cutD; rw [List.length_map, List.map_take, List.map_drop]
    rw [z]
    exact k.lst r (RDs.ints _) h
  | ref a =>
    unfold pSl at h
    dsimp only at h
    split at h
    · rename_i e
      obtain ⟨vs, z, q⟩ := r.lst e
      exact .inr (.inr ⟨_, _, rfl, .of z, k.lst r (q.cut lo hi) h⟩)
    · exact h.elim
  | _ => exact h.elim
end
end Mp

namespace Mp
open PySem L2

/-! ## built-in functions and methods -/
section
variable {K : PySem.W.Frag} {H H1 H2 H' : Hp} {S S1 S2 S' : Sto} {Q' : Post} {Q : VK}
mutual
theorem Dp.nodict : ∀ {d : PyData} {v : V}, Dp K H v d → d.hasDict = false
  | _, _, .non => by simp only [PyData.hasDict]
  | _, _, .bl _ => by simp only [PyData.hasDict]
  | _, _, .int _ => by simp only [PyData.hasDict]
  | _, _, .str _ => by simp only [PyData.hasDict]
  | _, _, .lst _ h => by simp only [PyData.hasDict]; exact Dp.nodicts h
  | _, _, .tup _ h => by simp only [PyData.hasDict]; exact Dp.nodicts h
theorem Dp.nodicts : ∀ {ds : List PyData} {vs : List V}, DpAll K H vs ds → PyData.hasDictAll ds = false
  | _, _, .nil => by simp only [PyData.hasDictAll]
  | _, _, .cons a b => by simp only [PyData.hasDictAll]; rw [Dp.nodict a, Dp.nodicts b]; rfl
end
def rRepr (K : PySem.W.Frag) : List V → Hp → VK → Prop := fun xs H Q => ∃ x p, xs = [x] ∧ Dp K H x p ∧ p.showable = true ∧ p.depth ≤ 40 ∧ p.shown.length ≤ sizeLine ∧ Q (.str p.shown) H
theorem cr_repr {X : Cx} (hu : X.A.units + 65 < cLine) (hg : X.A.guards = some []) : CallR X (.builtin "repr") (rRepr X.K) := by
  intro pins s σ H xs us Q I rv h
  obtain ⟨x, p, rfl, dp, hs, hd, hz, q⟩ := h
  obtain ⟨u, rfl, ru⟩ := vals1 rv
  cases dp with
  | non => cases ru; exact P.repr_of_none ⟨.str _, H, I.tok _, ⟨_, rfl⟩, q⟩
  | bl b => cases ru; exact P.repr_of_bool ⟨.str _, H, I.tok _, ⟨_, rfl⟩, q⟩
  | int i =>
    obtain ⟨t, rfl⟩ := ru
    exact P.repr_of_int (of_decide_eq_true (by simpa [PyData.showable] using hs)) ⟨.str _, H, I.tok _, ⟨_, rfl⟩, q⟩
  | str z =>
    obtain ⟨t, rfl⟩ := ru
    exact P.repr_of_str ⟨.str _, H, I.tok _, ⟨_, rfl⟩, q⟩ hz
  | lst h1 h2 =>
    cases ru
    obtain ⟨as, r⟩ := Dp.reads I _ _ _ (Dp.lst h1 h2) rfl
    exact repr_of_reads' r hs (PyData.noDict_hsm (Dp.nodict (Dp.lst h1 h2))) hg (by omega) (fun b o e => e) (fun h' t tk kk => ⟨.str _, H, I.kept (t' := tk) kk, ⟨_, rfl⟩, q⟩) hz
  | tup h1 h2 =>
    cases ru
    obtain ⟨as, r⟩ := Dp.reads I _ _ _ (Dp.tup h1 h2) rfl
    exact repr_of_reads' r hs (PyData.noDict_hsm (Dp.nodict (Dp.tup h1 h2))) hg (by omega) (fun b o e => e) (fun h' t tk kk => ⟨.str _, H, I.kept (t' := tk) kk, ⟨_, rfl⟩, q⟩) hz

def rLen (K : PySem.W.Frag) : List V → Hp → VK → Prop := fun xs H Q => (∃ x n, xs = [x] ∧ LenV K x H n ∧ Q (.int n) H) ∨ ∃ p kvs, xs = [.ref p] ∧ H p = some (.dK kvs) ∧ Q (.int kvs.length) H
/-- a built-in as a value -/
def Bt.val : Bt → Value
  | .int => .type "int" | .tuple => .type "tuple" | .list => .type "list" | .str => .type "str"
  | .len => .builtin "len" | .sum => .builtin "sum" | .max => .builtin "max" | .min => .builtin "min" | .any => .builtin "any" | .all => .builtin "all" | .repr => .builtin "repr" | .abs => .builtin "abs"
def rInt1 : List V → Hp → VK → Prop := fun xs H Q => (∃ i, xs = [.int i] ∧ Q (.int i) H) ∨ ∃ k, xs = [.bl k] ∧ Q (.int (if k then 1 else 0)) H
def rB (K : PySem.W.Frag) : Bt → List V → Hp → VK → Prop
  | .len => rLen K
  | .int => rInt1
  | .tuple => fun xs H Q => ∃ p ys, xs = [.ref p] ∧ ((SqL K H p ys ∧ ∀ l, H l = none → Q (.ref l) (upd H l (.tup ys))) ∨ (SqT K H p ys ∧ Q (.ref p) H))
  | .list => fun xs H Q => ∃ p ys, xs = [.ref p] ∧ (SqL K H p ys ∨ SqT K H p ys) ∧ ∀ l, H l = none → Q (.ref l) (upd H l (.lst ys))
  | .str => fun xs H Q => ∃ i, xs = [.int i] ∧ i.natAbs.log2 < 1920 ∧ Q (.str (toString i)) H
  | .sum => rSum K
  | .max => fun xs H Q => (∃ i j, xs = [.int i, .int j] ∧ Q (.int (if j > i then j else i)) H) ∨ rMax K xs H Q
  | .min => fun xs H Q => (∃ i j, xs = [.int i, .int j] ∧ Q (.int (if j < i then j else i)) H) ∨ rMin K xs H Q
  | .any => rAny K
  | .all => rAll K
  | .repr => rRepr K
  | .abs => fun xs H Q => ∃ i, xs = [.int i] ∧ Q (.int (if i < 0 then -i else i)) H
theorem cr_all' {X : Cx} (hc : X.calm = true) (hu : X.A.units + 65 < cLine) (hg : X.A.guards = some []) (f : Bt) : CallR X f.val (Mp.rB X.K f) := by
  cases f with
  | len => exact call_len.or call_lenD
  | int => exact call_int1
  | tuple => exact call_tuple_of
  | list => exact call_list_of
  | str => exact call_str_int
  | sum => exact cr_sum hc
  | max => exact (call_max2 hc).or (cr_max hc)
  | min => exact (call_min2 hc).or (cr_min hc)
  | any => exact cr_any hc
  | all => exact cr_all hc
  | repr => exact cr_repr hu hg
  | abs => exact call_abs
theorem pLen_ok (r : RS K S H) {x : D} {v : V} (rx : RD K H x v) (k : Kp K S H Q' Q) (h : pLen x S Q') : rLen K [v] H Q := by
  cases rx with
  | str z => exact .inl ⟨_, _, rfl, ⟨h.1, rfl⟩, k.at r (.int _) h.2⟩
  | tup e q => exact .inl ⟨_, _, rfl, .inr ⟨_, .of e, rfl⟩, by rw [← q.length]; exact k.at r (.int _) h⟩
  | scr e => exact .inl ⟨_, _, rfl, .inl ⟨_, e.sq, rfl⟩, by rw [List.length_map]; exact k.at r (.int _) h⟩
  | ref a =>
    unfold pLen at h
    dsimp only at h
    split at h
    · rename_i e
      obtain ⟨vs, z, q⟩ := r _ _ e
      exact .inr ⟨_, _, rfl, z, by rw [← Paired.length q]; exact k.at r (.int _) h⟩
    · rename_i e
      obtain ⟨vs, z, q⟩ := r.lst e
      exact .inl ⟨_, _, rfl, .inl ⟨_, .of z, rfl⟩, by rw [← q.length]; exact k.at r (.int _) h⟩
    · exact h.elim
  | _ => exact h.elim
theorem one_of {f : Bt} {x : D} {v : V} (rx : RD K H x v) : ∀ {us : List V}, RDs K H [x] us → ∃ u, us = [u] ∧ RD K H x u
  | _, .cons a .nil => ⟨_, rfl, a⟩
theorem seqOf_ok (r : RS K S H) {x : D} {v : V} {u : List D} (rx : RD K H x v) (h : seqOf x S = some u) : ∃ p ys, v = .ref p ∧ RDs K H u ys ∧ (SqL K H p ys ∨ SqT K H p ys) := by
  cases rx with
  | tup e q => cases h; exact ⟨_, _, rfl, q, .inr (.of e)⟩
  | scr e => cases h; exact ⟨_, _, rfl, RDs.ints _, .inl e.sq⟩
  | ref a =>
    unfold seqOf at h
    dsimp only at h
    split at h
    · rename_i e
      obtain ⟨vs, z, q⟩ := r.lst e
      cases h
      exact ⟨_, _, rfl, q, .inl (.of z)⟩
    · cases h
  | _ => cases h
theorem pB_ok (r : RS K S H) {f : Bt} {xs : List D} {vs : List V} (rx : RDs K H xs vs) (k : Kp K S H Q' Q) (h : pB f xs S Q') : Mp.rB K f vs H Q := by
  unfold pB at h
  split at h
  · cases rx with
    | cons a b => cases b; exact pLen_ok r a k h
  · cases rx with
    | cons a b => cases b; cases a; exact .inl ⟨_, rfl, k.at r (.int _) h⟩
  · cases rx with
    | cons a b => cases b; cases a; exact .inr ⟨_, rfl, k.at r (.int _) h⟩
  · cases rx with
    | cons a b => cases b; cases a; exact ⟨_, rfl, k.at r (.int _) h⟩
  · cases rx with
    | cons a b => cases b; cases a; exact ⟨_, rfl, h.1, k.at r (.str _) h.2⟩
  · cases rx with
    | cons a b => cases b with
      | cons b c => cases c; cases a; cases b; exact .inl ⟨_, _, rfl, k.at r (.int _) h⟩
  · cases rx with
    | cons a b => cases b with
      | cons b c => cases c; cases a; cases b; exact .inl ⟨_, _, rfl, k.at r (.int _) h⟩
  · rename_i x
    obtain ⟨u, e, h⟩ := h
    cases rx with
    | cons a b =>
      cases b
      -- a tuple is itself
      cases a with
      | tup e' q => cases e; exact ⟨_, _, rfl, .inr ⟨.of e', k.at r (.tup e' q) h⟩⟩
      | scr e' => cases e; exact ⟨_, _, rfl, .inl ⟨e'.sq, k.tup r (RDs.ints _) h⟩⟩
      | ref a =>
        unfold seqOf at e
        dsimp only at e
        split at e
        · rename_i e'
          obtain ⟨vs, z, q⟩ := r.lst e'
          cases e
          exact ⟨_, _, rfl, .inl ⟨.of z, k.tup r q h⟩⟩
        · cases e
      | _ => cases e
  · obtain ⟨u, e, h⟩ := h
    cases rx with
    | cons a b =>
      cases b
      obtain ⟨p, ys, rfl, q, sq⟩ := seqOf_ok r a e
      exact ⟨p, ys, rfl, sq, k.lst r q h⟩
  · obtain ⟨u, ns, e, e', h⟩ := h
    cases rx with
    | cons a b =>
      cases b; cases a
      obtain ⟨vs, z, q⟩ := r.lst e
      rw [q.intsOf e'] at z
      exact ⟨_, ns, rfl, .of z, k.at r (.int _) h⟩
  · obtain ⟨u, ns, m, e, e', ⟨hm, hm'⟩, h⟩ := h
    cases rx with
    | cons a b =>
      cases b; cases a
      obtain ⟨vs, z, q⟩ := r.lst e
      rw [q.intsOf e'] at z
      refine .inr ⟨_, ns, rfl, .of z, List.length_pos_of_mem hm, fun m' h1 h2 => ?_⟩
      have : m' = m := Int.le_antisymm (hm' _ h1) (h2 _ hm)
      subst this
      exact k.at r (.int _) h
  · obtain ⟨u, ns, m, e, e', ⟨hm, hm'⟩, h⟩ := h
    cases rx with
    | cons a b =>
      cases b; cases a
      obtain ⟨vs, z, q⟩ := r.lst e
      rw [q.intsOf e'] at z
      refine .inr ⟨_, ns, rfl, .of z, List.length_pos_of_mem hm, fun m' h1 h2 => ?_⟩
      have : m' = m := Int.le_antisymm (h2 _ hm) (hm' _ h1)
      subst this
      exact k.at r (.int _) h
  · obtain ⟨u, ns, e, e', h⟩ := h
    cases rx with
    | cons a b =>
      cases b; cases a
      obtain ⟨vs, z, q⟩ := r.lst e
      rw [q.blsOf e'] at z
      exact ⟨_, ns, rfl, .of z, k.at r (.bl _) h⟩
  · obtain ⟨u, ns, e, e', h⟩ := h
    cases rx with
    | cons a b =>
      cases b; cases a
      obtain ⟨vs, z, q⟩ := r.lst e
      rw [q.blsOf e'] at z
      exact ⟨_, ns, rfl, .of z, k.at r (.bl _) h⟩
  · obtain ⟨p, e, h1, h2, h3, h⟩ := h
    cases rx with
    | cons a b =>
      cases b
      exact ⟨_, p, rfl, Pd.dp r e a, h1, h2, h3, k.at r (.str _) h⟩
  · exact h.elim
/-! ### methods -/
theorem set_list_ok (r : RS K S H) {p : Addr} {ds ds' : List D} {vs' : List V} (e : S p = some (.lst ds)) (q : RDs K H ds' vs') : RS K (S.put p (.lst ds')) (upd H p (.lst vs')) ∧ Fr S H (S.put p (.lst ds')) (upd H p (.lst vs')) :=
  ⟨r.set e ⟨vs', upd_same, q.stay (stay_set r e _)⟩, Fr.set e _ _⟩
/-- a method by the receiver's value -/
def rM (K : PySem.W.Frag) : Mt → V → List V → Hp → VK → Prop
  | .append => rAppend
  | .extend => rExtend
  | .pop => rPop
  | .get => fun _ _ _ _ => False
theorem pM_ok (r : RS K S H) {m : Mt} {x : D} {v : V} {xs : List D} {vs : List V} (rx : RD K H x v) (rs : RDs K H xs vs) (k : Kp K S H Q' Q) (h : pM m x xs S Q') : rM K m v vs H Q := by
  unfold pM at h
  split at h
  · cases rx
    cases rs with
    | cons a b =>
      cases b
      split at h
      · rename_i e
        obtain ⟨us, z, q⟩ := r.lst e
        obtain ⟨r', f'⟩ := set_list_ok r e (q.append (.cons a .nil))
        exact ⟨_, us, _, rfl, rfl, z, by rw [← q.length]; exact h.1, k _ _ _ _ f' r' .non h.2⟩
      · exact h.elim
  · cases rx
    cases rs with
    | cons a b =>
      cases b
      cases a
      split at h
      · rename_i e e'
        obtain ⟨us, z, q⟩ := r.lst e
        obtain ⟨ws, z', q'⟩ := r.lst e'
        obtain ⟨r', f'⟩ := set_list_ok r e (q.append q')
        exact ⟨_, _, us, ws, rfl, rfl, z, z', by rw [← q.length, ← q'.length]; exact h.1, k _ _ _ _ f' r' .non h.2⟩
      · exact h.elim
  · cases rx
    cases rs
    split at h
    · rename_i e
      obtain ⟨us, z, q⟩ := r.lst e
      obtain ⟨y, hy, h⟩ := h
      obtain ⟨w, hw, ry⟩ := q.get hy
      obtain ⟨r', f'⟩ := set_list_ok r e q.dropLast
      exact ⟨_, us, w, rfl, rfl, z, by rw [← q.length]; exact hw, k _ _ _ _ f' r' (ry.stay (stay_set r e _)) h⟩
    · exact h.elim
  · exact h.elim
end
end Mp

namespace Mp
open PySem L2 PySem.Spec PyProof.Rows

/-! ## expressions: each rule of the layer, for the language's meaning -/
abbrev X0 : XPost := fun _ _ _ => False
def tE (K : PySem.W.Frag) (Wf : Callee) (G : Str → Option Str) (m : E) : TE := fun τ H Q => ∃ σ S Q', RSl K H σ τ ∧ RS K S H ∧ wpE Wf G m σ S X0 Q' ∧ Kp K S H Q' Q
def tT (K : PySem.W.Frag) (Wf : Callee) (G : Str → Option Str) (m : E) : TT := fun τ H Q => ∃ (σ : Sl) (S : Sto) (Q' : Bool → Sto → Prop), RSl K H σ τ ∧ RS K S H ∧ wpE Wf G m σ S X0 (fun d S1 => ∃ b, d = .bl b ∧ Q' b S1) ∧
  ∀ b S' H', Fr S H S' H' → RS K S' H' → Q' b S' → Q b H'
def tEs (K : PySem.W.Frag) (Wf : Callee) (G : Str → Option Str) (ms : List E) : TA := fun τ H Q => ∃ (σ : Sl) (S : Sto) (Q' : List D → Sto → Prop), RSl K H σ τ ∧ RS K S H ∧ wpEs Wf G ms σ S X0 Q' ∧
  ∀ ds S' vs H', ds.length = ms.length → Fr S H S' H' → RS K S' H' → RDs K H' ds vs → Q' ds S' → Q vs H'
def tO (K : PySem.W.Frag) (Wf : Callee) (G : Str → Option Str) (ms : List E) : TO := fun τ H Q => ∃ (σ : Sl) (S : Sto) (Q' : Option Int → Sto → Prop), RSl K H σ τ ∧ RS K S H ∧ wpEs Wf G ms σ S X0 (fun l S1 => ∃ i, partOf l = some i ∧ Q' i S1) ∧
  ∀ i S' H', Fr S H S' H' → RS K S' H' → Q' i S' → Q i H'
theorem PE.imp {X : Cx} {e : Expr} {t t' : TE} (h : PE X e t) (f : ∀ σ H Q, t' σ H Q → t σ H Q) : PE X e t' := ⟨fun pins s σ H Q I q => h.run pins s σ H Q I (f σ H Q q)⟩
theorem PT.imp {X : Cx} {e : Expr} {t t' : TT} (h : PT X e t) (f : ∀ σ H Q, t' σ H Q → t σ H Q) : PT X e t' := ⟨fun pins s σ H Q I q => h.run pins s σ H Q I (f σ H Q q)⟩
theorem PW.imp {X : Cx} {e : Expr} {t t' : TT} (h : PW X e t) (f : ∀ σ H Q, t' σ H Q → t σ H Q) : PW X e t' := ⟨fun wh pins s σ H Q I q => h.run wh pins s σ H Q I (f σ H Q q)⟩
theorem PA.imp {X : Cx} {e : List Expr} {t t' : TA} (h : PA X e t) (f : ∀ σ H Q, t' σ H Q → t σ H Q) : PA X e t' := ⟨fun p pins s σ H Q I q => h.run p pins s σ H Q I (f σ H Q q)⟩
theorem PO.imp {X : Cx} {e : Option Expr} {t t' : TO} (h : PO X e t) (f : ∀ σ H Q, t' σ H Q → t σ H Q) : PO X e t' := ⟨fun pins s σ H Q I q => h.run pins s σ H Q I (f σ H Q q)⟩
theorem PTs.imp {X : Cx} {e : List Expr} {t t' : TT} (h : PTs X e t) (f : ∀ σ H Q, t' σ H Q → t σ H Q) : PTs X e t' := ⟨fun pins s σ H Q I q => h.run pins s σ H Q I (f σ H Q q)⟩

/-! ### the language's meaning is monotone where it must be -/
section
variable {X : Cx} {Wf : Callee} {G : Str → Option Str} {a b c e : Expr} {x y z : E} {pos : Pos}

theorem se_const {e : Expr} {v : V} {d : D} {m : E} (h : PE X e (tC v)) (hm : ∀ σ S Q, wpE Wf G m σ S X0 Q → Q d S) (q : ∀ H, RD X.K H d v) : PE X e (tE X.K Wf G m) :=
  PE.imp h fun τ H Q ⟨σ, S, Q', rs, r, w, k⟩ => k.at r (q H) (hm _ _ _ w)
theorem se_non {j : Nat} : PE X (.Constant .none j pos) (tE X.K Wf G .non) := se_const pe_non (fun _ _ _ w => by simpa only [wpE] using w) fun _ => .non
theorem se_bl {k : Bool} {j : Nat} : PE X (.Constant (.bool k) j pos) (tE X.K Wf G (.bl k)) := se_const pe_bl (fun _ _ _ w => by simpa only [wpE] using w) fun _ => .bl _
theorem se_int {i : Int} {j : Nat} : PE X (.Constant (.int i) j pos) (tE X.K Wf G (.int i)) := se_const pe_int (fun _ _ _ w => by simpa only [wpE] using w) fun _ => .int _
theorem se_str {u : Str} {j : Nat} : PE X (.Constant (.str u) j pos) (tE X.K Wf G (.str u)) := se_const pe_str (fun _ _ _ w => by simpa only [wpE] using w) fun _ => .str _
theorem se_var {i : Nat} {u : Str} (hN : X.N[i]? = some u) (hv : Vis X.env.scope u) (hd : (u == ("__debug__" : Str)) = false) (hc : (u == ("__classdict__" : Str)) = false) : PE X (.Name u pos) (tE X.K Wf G (.v i)) :=
  PE.imp (pe_var hN hv hd hc) fun τ H Q ⟨σ, S, Q', rs, r, w, k⟩ => by
    simp only [wpE] at w
    obtain ⟨d, e, w⟩ := w
    obtain ⟨v, z, q⟩ := rs.2 i d e
    exact ⟨v, z, k.at r q w⟩
theorem se_glob {u : Str} (hg : Gl X u) (hm : ∀ z, G u = some z → ∃ w, X.mg u = some w ∧ RelV (.str z) w) (hd : (u == ("__debug__" : Str)) = false) : PE X (.Name u pos) (tE X.K Wf G (.g u)) := by
  cases e : G u with
  | none =>
    refine ⟨fun pins s σ H Q I ⟨τ, S, Q', rs, r, w, k⟩ => ?_⟩
    simp only [wpE] at w
    obtain ⟨z, h, _⟩ := w
    rw [e] at h; cases h
  | some z =>
    obtain ⟨w, h1, h2⟩ := hm z e
    refine PE.imp (pe_glob hg h1 h2 hd) fun τ H Q ⟨σ, S, Q', rs, r, w, k⟩ => ?_
    simp only [wpE] at w
    obtain ⟨z', h, w⟩ := w
    rw [e] at h; cases h
    exact k.at r (.str _) w
/-- one part, then the rest -/
theorem tE.mk {K : PySem.W.Frag} {Wf : Callee} {G : Str → Option Str} {m : E} {τ : L2.St} {H : Hp} {Q : VK} {σ : Sl} {S : Sto} {Q' : Post} (rs : RSl K H σ τ) (r : RS K S H) (w : wpE Wf G m σ S X0 Q')
    (k : ∀ d S' v H', Fr S H S' H' → RS K S' H' → RD K H' d v → Q' d S' → Q v H') : tE K Wf G m τ H Q := ⟨σ, S, Q', rs, r, w, k⟩
theorem se_bin {o : Operator} (ho : opOk o = true) (ha : PE X a (tE X.K Wf G x)) (hb : PE X b (tE X.K Wf G y)) : PE X (.BinOp a o b pos) (tE X.K Wf G (.bin o x y)) :=
  PE.imp (pe_op (op_bin ho) ha hb) fun τ H Q ⟨σ, S, Q', rs, r, w, k⟩ => by
    simp only [wpE] at w
    exact tE.mk rs r w fun d S1 v H1 f1 r1 q1 w1 => tE.mk (rs.stay (f1.stay r)) r1 w1 fun d2 S2 u H2 f2 r2 q2 w2 => pBin_ok r2 (q1.stay (f2.stay r1)) q2 (k.on (f1.trans f2)) w2
theorem se_neg (ha : PE X a (tE X.K Wf G x)) : PE X (.UnaryOp .USub a pos) (tE X.K Wf G (.neg x)) :=
  PE.imp (pe_un un_neg ha) fun τ H Q ⟨σ, S, Q', rs, r, w, k⟩ => by
    simp only [wpE] at w
    refine tE.mk rs r w fun d S1 v H1 f1 r1 q1 w1 => ?_
    obtain ⟨i, rfl, w1⟩ := w1
    cases q1
    exact ⟨i, rfl, (k.on f1).at r1 (.int _) w1⟩
/-- not, of a value by its truth -/
theorem se_notV (ha : PE X a (tE X.K Wf G x)) : PE X (.UnaryOp .Not a pos) (tE X.K Wf G (.not (.tru x))) :=
  PE.imp (pe_notT ha) fun τ H Q ⟨σ, S, Q', rs, r, w, k⟩ => by
    simp only [wpE] at w
    refine tE.mk rs r w fun d S1 v H1 f1 r1 q1 w1 => ?_
    obtain ⟨b, hb, w1⟩ := pTru_ok r1 q1 w1
    obtain ⟨c, e, w1⟩ := w1
    cases e
    exact ⟨b, hb, (k.on f1).at r1 (.bl _) w1⟩
theorem se_one {o : BoolOp} (ha : PE X a (tE X.K Wf G x)) : PE X (.BoolOp o [a] pos) (tE X.K Wf G x) := pe_one ha
theorem se_and {es : List Expr} (ha : PE X a (tE X.K Wf G x)) (hb : PE X (.BoolOp .And (b :: es) pos) (tE X.K Wf G y)) : PE X (.BoolOp .And (a :: b :: es) pos) (tE X.K Wf G (.and x y)) :=
  PE.imp (pe_and ha hb) fun τ H Q ⟨σ, S, Q', rs, r, w, k⟩ => by
    simp only [wpE] at w
    refine tE.mk rs r w fun d S1 v H1 f1 r1 q1 w1 => ?_
    obtain ⟨c, rfl, w1⟩ := w1
    cases q1
    refine ⟨c, rfl, ?_⟩
    cases c with
    | true => rw [if_pos rfl] at w1 ⊢; exact tE.mk (rs.stay (f1.stay r)) r1 w1 (k.on f1)
    | false => rw [if_neg Bool.false_ne_true] at w1 ⊢; exact (k.on f1).at r1 (.bl _) w1
theorem se_or {es : List Expr} (ha : PE X a (tE X.K Wf G x)) (hb : PE X (.BoolOp .Or (b :: es) pos) (tE X.K Wf G y)) : PE X (.BoolOp .Or (a :: b :: es) pos) (tE X.K Wf G (.or x y)) :=
  PE.imp (pe_or ha hb) fun τ H Q ⟨σ, S, Q', rs, r, w, k⟩ => by
    simp only [wpE] at w
    refine tE.mk rs r w fun d S1 v H1 f1 r1 q1 w1 => ?_
    obtain ⟨c, rfl, w1⟩ := w1
    cases q1
    refine ⟨c, rfl, ?_⟩
    cases c with
    | false => rw [if_neg Bool.false_ne_true] at w1 ⊢; exact tE.mk (rs.stay (f1.stay r)) r1 w1 (k.on f1)
    | true => rw [if_pos rfl] at w1 ⊢; exact (k.on f1).at r1 (.bl _) w1
theorem se_ifE (hc : PT X c (tT X.K Wf G z)) (ha : PE X a (tE X.K Wf G x)) (hb : PE X b (tE X.K Wf G y)) : PE X (.IfExp c a b pos) (tE X.K Wf G (.ite z x y)) :=
  PE.imp (pe_ifExp hc ha hb) fun τ H Q ⟨σ, S, Q', rs, r, w, k⟩ => by
    simp only [wpE] at w
    refine ⟨σ, S, _, rs, r, w, fun c S1 H1 f1 r1 w1 => ?_⟩
    cases c with
    | true => rw [if_pos rfl] at w1 ⊢; exact tE.mk (rs.stay (f1.stay r)) r1 w1 (k.on f1)
    | false => rw [if_neg Bool.false_ne_true] at w1 ⊢; exact tE.mk (rs.stay (f1.stay r)) r1 w1 (k.on f1)
theorem se_cmp {o : CmpOp} (hu : X.A.units + 65 < cLine) (hm : behindInMarks o b = false) (ha : PE X a (tE X.K Wf G x)) (hb : PE X b (tE X.K Wf G y)) : PE X (.Compare a [o] [b] pos) (tE X.K Wf G (.cmp o x y)) :=
  PE.imp (pe_cmpR (op_cmp hu o) ha hb hm) fun τ H Q ⟨σ, S, Q', rs, r, w, k⟩ => by
    simp only [wpE] at w
    exact tE.mk rs r w fun d S1 v H1 f1 r1 q1 w1 => tE.mk (rs.stay (f1.stay r)) r1 w1 fun d2 S2 u H2 f2 r2 q2 w2 =>
      pCmp_ok r2 (q1.stay (f2.stay r1)) q2 (fun b h => (k.on (f1.trans f2)).at r2 (.bl _) h) w2
theorem st_cmp {o : CmpOp} (hu : X.A.units + 65 < cLine) (hm : behindInMarks o b = false) (ha : PE X a (tE X.K Wf G x)) (hb : PE X b (tE X.K Wf G y)) : PT X (.Compare a [o] [b] pos) (tT X.K Wf G (.cmp o x y)) :=
  PT.imp (pt_cmpR (op_cmp hu o) ha hb hm) fun τ H Q ⟨σ, S, Q', rs, r, w, k⟩ => by
    simp only [wpE] at w
    refine tE.mk rs r w fun d S1 v H1 f1 r1 q1 w1 => tE.mk (rs.stay (f1.stay r)) r1 w1 fun d2 S2 u H2 f2 r2 q2 w2 =>
      pCmp_ok r2 (q1.stay (f2.stay r1)) q2 (fun b h => ?_) w2
    obtain ⟨b', e, h⟩ := h
    cases e
    exact ⟨b, rfl, k _ _ _ (f1.trans f2) r2 h⟩
theorem se_cmp2 {o p : CmpOp} (hu : X.A.units + 65 < cLine) (hm : lastMarks [o, p] [b, c] = false) (ha : PE X a (tE X.K Wf G x)) (hb : PE X b (tE X.K Wf G y)) (hc : PE X c (tE X.K Wf G z)) :
    PE X (.Compare a [o, p] [b, c] pos) (tE X.K Wf G (.cmp2 o p x y z)) :=
  PE.imp (pe_chain (op_cmp hu o) (op_cmp hu p) ha hb hc hm) fun τ H Q ⟨σ, S, Q', rs, r, w, k⟩ => by
    simp only [wpE] at w
    refine tE.mk rs r w fun d S1 v H1 f1 r1 q1 w1 => tE.mk (rs.stay (f1.stay r)) r1 w1 fun d2 S2 u H2 f2 r2 q2 w2 =>
      pCmp_ok r2 (q1.stay (f2.stay r1)) q2 (fun b h => ⟨b, rfl, ?_⟩) w2
    cases b with
    | true =>
      rw [if_pos rfl] at h ⊢
      exact tE.mk (rs.stay ((f1.trans f2).stay r)) r2 h fun d3 S3 t H3 f3 r3 q3 w3 => pCmp_ok r3 (q2.stay (f3.stay r2)) q3 (fun b h => (k.on ((f1.trans f2).trans f3)).at r3 (.bl _) h) w3
    | false => rw [if_neg Bool.false_ne_true] at h ⊢; exact (k.on (f1.trans f2)).at r2 (.bl _) h
theorem st_cmp2 {o p : CmpOp} (hu : X.A.units + 65 < cLine) (hm : lastMarks [o, p] [b, c] = false) (ha : PE X a (tE X.K Wf G x)) (hb : PE X b (tE X.K Wf G y)) (hc : PE X c (tE X.K Wf G z)) :
    PT X (.Compare a [o, p] [b, c] pos) (tT X.K Wf G (.cmp2 o p x y z)) :=
  PT.imp (pt_chain (op_cmp hu o) (op_cmp hu p) ha hb hc hm) fun τ H Q ⟨σ, S, Q', rs, r, w, k⟩ => by
    simp only [wpE] at w
    refine tE.mk rs r w fun d S1 v H1 f1 r1 q1 w1 => tE.mk (rs.stay (f1.stay r)) r1 w1 fun d2 S2 u H2 f2 r2 q2 w2 =>
      pCmp_ok r2 (q1.stay (f2.stay r1)) q2 (fun b h => ⟨b, rfl, ?_⟩) w2
    cases b with
    | true =>
      rw [if_pos rfl] at h ⊢
      refine tE.mk (rs.stay ((f1.trans f2).stay r)) r2 h fun d3 S3 t H3 f3 r3 q3 w3 => pCmp_ok r3 (q2.stay (f3.stay r2)) q3 (fun b h => ?_) w3
      obtain ⟨b', e, h⟩ := h
      cases e
      exact ⟨b, rfl, k _ _ _ ((f1.trans f2).trans f3) r3 h⟩
    | false =>
      rw [if_neg Bool.false_ne_true] at h ⊢
      obtain ⟨b', e, h⟩ := h
      cases e
      exact ⟨false, rfl, k _ _ _ (f1.trans f2) r2 h⟩
theorem st_tru (he : ∀ whole, isTrue a X.env whole = (do let v ← whole; standAt a.pos; holding [v] (truthy v))) (ha : PE X a (tE X.K Wf G x)) : PT X a (tT X.K Wf G (.tru x)) :=
  PT.imp (pt_truth ha he) fun τ H Q ⟨σ, S, Q', rs, r, w, k⟩ => by
    simp only [wpE] at w
    refine tE.mk rs r w fun d S1 v H1 f1 r1 q1 w1 => ?_
    obtain ⟨b, hb, b', e, w1⟩ := pTru_ok r1 q1 w1
    cases e
    exact ⟨b, hb, k _ _ _ f1 r1 w1⟩
theorem st_not (ha : PT X a (tT X.K Wf G x)) : PT X (.UnaryOp .Not a pos) (tT X.K Wf G (.not x)) :=
  PT.imp (pt_not ha) fun τ H Q ⟨σ, S, Q', rs, r, w, k⟩ => by
    simp only [wpE] at w
    refine ⟨σ, S, fun b S1 => Q' (!b) S1, rs, r, ?_, fun b S1 H1 f1 r1 w1 => k _ _ _ f1 r1 w1⟩
    simpa using w
theorem sw_and1 (ha : PT X a (tT X.K Wf G x)) : PW X (.BoolOp .And [a] pos) (tT X.K Wf G x) := pw_and1 ha
theorem sw_or1 (ha : PT X a (tT X.K Wf G x)) : PW X (.BoolOp .Or [a] pos) (tT X.K Wf G x) := pw_or1 ha
theorem sw_and {es : List Expr} (ha : PT X a (tT X.K Wf G x)) (hb : PW X (.BoolOp .And (b :: es) pos) (tT X.K Wf G y)) : PW X (.BoolOp .And (a :: b :: es) pos) (tT X.K Wf G (.and x y)) :=
  PW.imp (pw_and ha hb) fun τ H Q ⟨σ, S, Q', rs, r, w, k⟩ => by
    simp only [wpE] at w
    refine ⟨σ, S, _, rs, r, w, fun c S1 H1 f1 r1 w1 => ?_⟩
    cases c with
    | true => rw [if_pos rfl] at w1 ⊢; exact ⟨σ, S1, Q', rs.stay (f1.stay r), r1, w1, fun b S2 H2 f2 => k b S2 H2 (f1.trans f2)⟩
    | false =>
      rw [if_neg Bool.false_ne_true] at w1 ⊢
      obtain ⟨b, e, w1⟩ := w1
      cases e
      exact k _ _ _ f1 r1 w1
theorem sw_or {es : List Expr} (ha : PT X a (tT X.K Wf G x)) (hb : PW X (.BoolOp .Or (b :: es) pos) (tT X.K Wf G y)) : PW X (.BoolOp .Or (a :: b :: es) pos) (tT X.K Wf G (.or x y)) :=
  PW.imp (pw_or ha hb) fun τ H Q ⟨σ, S, Q', rs, r, w, k⟩ => by
    simp only [wpE] at w
    refine ⟨σ, S, _, rs, r, w, fun c S1 H1 f1 r1 w1 => ?_⟩
    cases c with
    | false => rw [if_neg Bool.false_ne_true] at w1 ⊢; exact ⟨σ, S1, Q', rs.stay (f1.stay r), r1, w1, fun b S2 H2 f2 => k b S2 H2 (f1.trans f2)⟩
    | true =>
      rw [if_pos rfl] at w1 ⊢
      obtain ⟨b, e, w1⟩ := w1
      cases e
      exact k _ _ _ f1 r1 w1
/-! ### displays, calls, methods -/
theorem starEach_ne (h : ∀ u p, e ≠ .Starred u p) (es : List Expr) (env : PySem.Env) : starEach (e :: es) env = (false, eval e env) :: starEach es env := by
  cases e <;> first | rfl | exact absurd rfl (h _ _)
theorem sa_nil : PA X [] (tEs X.K Wf G []) := PA.imp pa_nil fun τ H Q ⟨σ, S, Q', rs, r, w, k⟩ => k _ _ _ _ rfl .refl r .nil (by simpa only [wpEs] using w)
theorem sa_cons {es : List Expr} {l : List E} (hne : ∀ u p, e ≠ .Starred u p) (ha : PE X e (tE X.K Wf G x)) (hr : PA X es (tEs X.K Wf G l)) : PA X (e :: es) (tEs X.K Wf G (x :: l)) :=
  PA.imp (pa_cons ha hr (starEach_ne hne _ _)) fun τ H Q ⟨σ, S, Q', rs, r, w, k⟩ => by
    simp only [wpEs] at w
    exact tE.mk rs r w fun d S1 v H1 f1 r1 q1 w1 => ⟨σ, S1, _, rs.stay (f1.stay r), r1, w1, fun ds S2 vs H2 hl f2 r2 q2 w2 => k _ _ _ _ (congrArg (· + 1) hl) (f1.trans f2) r2 (.cons (q1.stay (f2.stay r1)) q2) w2⟩
theorem se_tup {es : List Expr} {l : List E} {j : Nat} (hl : l.length ≤ 100) (h : PA X es (tEs X.K Wf G l)) : PE X (.Tuple es j pos) (tE X.K Wf G (.tup l)) :=
  PE.imp (pe_tup h) fun τ H Q ⟨σ, S, Q', rs, r, w, k⟩ => by
    simp only [wpE] at w
    exact ⟨σ, S, _, rs, r, w, fun ds S1 vs H1 hd f1 r1 q1 w1 => ⟨by rw [← q1.length, hd]; exact Nat.le_trans hl (by decide), (k.on f1).tup r1 q1 w1⟩⟩
theorem se_lst {es : List Expr} {l : List E} (hl : l.length ≤ 100) (h : PA X es (tEs X.K Wf G l)) : PE X (.List es pos) (tE X.K Wf G (.lst l)) :=
  PE.imp (pe_lst h) fun τ H Q ⟨σ, S, Q', rs, r, w, k⟩ => by
    simp only [wpE] at w
    exact ⟨σ, S, _, rs, r, w, fun ds S1 vs H1 hd f1 r1 q1 w1 => ⟨by rw [← q1.length, hd]; exact Nat.le_trans hl (by decide), (k.on f1).lst r1 q1 w1⟩⟩
theorem se_dnew : PE X (.Dict [] [] pos) (tE X.K Wf G .dnew) :=
  PE.imp pe_dnewK fun τ H Q ⟨σ, S, Q', rs, r, w, k⟩ => by
    simp only [wpE] at w
    exact fun p hp => k _ _ _ _ (Fr.new hp (.dK []) (.dic [])) (r.new hp ⟨[], upd_same, .nil⟩) (.ref p) (w p (r.fresh hp))
theorem starEach_all : ∀ (es : List Expr) (env : PySem.Env), (∀ e ∈ es, ∀ u p, e ≠ .Starred u p) → (starEach es env).all (fun x => !x.1) = true
  | [], _, _ => rfl
  | e :: es, env, h => by
    rw [starEach_ne (h e (List.mem_cons_self ..)) es env, List.all_cons, starEach_all es env fun x hx => h x (List.mem_cons_of_mem _ hx)]; rfl
theorem starEach_any (es : List Expr) (env : PySem.Env) (h : ∀ e ∈ es, ∀ u p, e ≠ .Starred u p) (pos : Pos) : (backTo pos (starEach es env)).any (·.1) = false := by
  have z := starEach_all es env h
  rw [List.any_eq_false]
  intro x hx
  unfold backTo at hx
  obtain ⟨y, hy, rfl⟩ := List.mem_map.mp hx
  have := List.all_eq_true.mp z y hy
  simpa using this
theorem vis_of {N : List Str} {sc : Scope} {x : Str} {i : Nat} (h : nameOf N sc x = some (some i)) : Vis sc x ∧ N[i]? = some x ∧ (x == ("__debug__" : Str)) = false ∧ (x == ("__classdict__" : Str)) = false := by
  have slot : ∀ (N : List Str) (k i : Nat), slotOf N x k = some i → k ≤ i ∧ N[i - k]? = some x := by
    intro N
    induction N with
    | nil => intro k i h; cases h
    | cons y r ih =>
      intro k i h
      unfold slotOf at h
      split at h
      · rename_i e
        cases h
        subst e
        exact ⟨Nat.le_refl _, by simp⟩
      · obtain ⟨h1, h2⟩ := ih (k + 1) i h
        refine ⟨by omega, ?_⟩
        have : i - k = (i - (k + 1)) + 1 := by omega
        rw [this]; simpa using h2
  unfold nameOf at h
  split at h
  · cases h
  · rename_i hn
    rw [not_or, not_or] at hn
    have fin : ∀ {i : Nat}, (slotOf N x 0).map some = some (some i) → N[i]? = some x := fun {i} e => by
      cases q : slotOf N x 0 with
      | none => rw [q] at e; cases e
      | some j => rw [q] at e; cases e; exact (slot N 0 _ q).2
    have nd : (x == ("__debug__" : Str)) = false ∧ (x == ("__classdict__" : Str)) = false := ⟨beq_eq_false_iff_ne.mpr hn.1, beq_eq_false_iff_ne.mpr hn.2.1⟩
    split at h
    · rename_i e; exact ⟨.inl e, fin h, nd⟩
    · rename_i e; exact ⟨.inr (.inl e), fin h, nd⟩
    · rename_i e; exact ⟨.inr (.inr e), fin h, nd⟩
    · cases h
    · cases h
theorem gl_of {N : List Str} {sc : Scope} {x : Str} (h : nameOf N sc x = some none) : sc.names.lookup x = some .globalImplicit ∧ (x == ("__debug__" : Str)) = false := by
  unfold nameOf at h
  split at h
  · cases h
  · rename_i hn
    rw [not_or, not_or] at hn
    have no : ∀ o : Option Nat, o.map some ≠ some none := fun o z => by cases o <;> cases z
    split at h
    · exact absurd h (no _)
    · exact absurd h (no _)
    · exact absurd h (no _)
    · rename_i e; exact ⟨e, beq_eq_false_iff_ne.mpr hn.1⟩
    · cases h
end
end Mp

namespace Mp
open PySem L2 PySem.Spec PyProof.Rows

/-! ## calls -/
/-- a def keeps a promise where nothing is being shown (no repr runs) -/
structure FnG (P : Program) (w : World) (K : PySem.W.Frag) (mg : Str → Option Value) (base : Heap) (k : Nat) (f : Addr) (fd : FuncData) (ps : List Str) (sp : List V → Hp → VK → Prop) : Prop where
  len : ∀ vs H Q, sp vs H Q → vs.length = ps.length
  run : ∀ (A : Around) (outer : List PySem.Env) (s : Shared) (H : Hp) (args : Args) (us : List Value) (vs : List V) (Q : VK), Room k A → A.guards = some [] → Env0 P w K mg base A outer s H →
    BindsTo s fd args (ps.zip us) → Vals vs us → sp vs H Q → codeAny (model P w) A (.call (.ref f) args) (CR CX0 outer P w H s Q E0) s
/-- what the language says of a call -/
def spF (K : PySem.W.Frag) (F : Str → Option Fn) (G : Str → Option Str) (k : Nat) (f : Str) : List V → Hp → VK → Prop := fun vs H Q => ∃ (ds : List D) (S : Sto) (Q' : Post), RDs K H ds vs ∧ RS K S H ∧ W F G k f ds S X0 Q' ∧ Kp K S H Q' Q
/-- where a def's body runs -/
structure Good (F : Str → Option Fn) (G : Str → Option Str) (L : List Str) (k : Nat) (X : Cx) : Prop where
  nd : X.N.Nodup
  calm : X.calm = true
  room : Room k X.A
  quiet : X.A.guards = some []
  blt : ∀ x ∈ bltNames, X.mg x = none
  txt : ∀ x z, G x = some z → ∃ u, X.mg x = some u ∧ RelV (.str z) u
  fns : ∀ f ∈ L, ∃ a fd ps, X.mg f = some (.ref a) ∧ PySem.W.keepIn X.K (.ref a) = true ∧ Binds X.K fd ps [] ∧ FnG X.prog X.w X.K X.mg X.base k a fd ps (spF X.K F G k f)
section
variable {X : Cx} {F : Str → Option Fn} {G : Str → Option Str} {L : List Str} {k : Nat} {a b c e : Expr} {x y z : E} {pos : Pos}
theorem Good.un (g : Good F G L k X) : X.A.units + 65 < cLine := by have := g.room.un; omega
theorem Good.blk (g : Good F G L k X) (s : Shared) (H : Hp) (scope : Scope) (cenv : PySem.Env) (fp : List Addr) : Good F G L k (X.blk s H scope cenv fp) := ⟨g.nd, g.calm, g.room, g.quiet, g.blt, g.txt, g.fns⟩
/-- a def is called -/
theorem runG {f : Addr} {fd : FuncData} {ps : List Str} {sp : List V → Hp → VK → Prop} {pins : List (Addr × Obj)} {σ : L2.St} {H : Hp} {s : Shared} {Q : VK} {us : List Value} {vs : List V}
    (g : FnG X.prog X.w X.K X.mg X.base k f fd ps sp) (hr : Room k X.A) (hq : X.A.guards = some []) (hb : Binds X.K fd ps []) (I : Inv X pins σ H s) (r : Vals vs us) (h : sp vs H Q) :
    wpAny (model X.prog X.w) X.A (call (.ref f) us) (EP X pins σ Q) X.xe s := by
  have n : (us ++ []).length = ps.length := by rw [List.append_nil, ← r.length]; exact g.len _ _ _ h
  have b := hb s us I.kIn n
  rw [List.append_nil] at b
  refine wpAny_call (codeAny_mono (g.run X.A X.stack s H ⟨us, []⟩ us vs Q hr hq I.env0 b r h) fun t s' q => ?_)
  match t, q with
  | .error _, q => exact q.elim
  | .ok (.ret _), q => exact I.after q
  | .ok .next, q => exact q.elim
  | .ok .brk, q => exact q.elim
  | .ok .cont, q => exact q.elim
theorem se_call {f : Str} {p : Pos} {l : List E} {es : List Expr} (g : Good F G L k X) (hf : f ∈ L) (hg : Gl X f) (hd : (f == ("__debug__" : Str)) = false) (hne : ∀ e ∈ es, ∀ u q, e ≠ .Starred u q) (hl : l.length = es.length) (ha : PA X es (tEs X.K (W F G k) G l)) :
    PE X (.Call (.Name f p) es [] pos) (tE X.K (W F G k) G (.call f l)) := by
  obtain ⟨ad, fd, ps, hm, hk, hb, fg⟩ := g.fns f hf
  refine ⟨fun pins s τ H Q I ⟨σ, S, Q', rs, r, w, kk⟩ => ?_⟩
  simp only [wpE] at w
  refine wpAny_Call_Name_kw (ld_glob I hg hm ?_ hd)
  cases es with
  | nil =>
    cases l with
    | cons _ _ => cases hl
    | nil =>
      simp only [wpEs] at w
      exact PySem.W.callWith_K0 I.kIn hk (runG (us := []) fg g.room g.quiet hb I .nil ⟨[], S, Q', .nil, r, w, kk⟩)
  | cons e1 rest =>
    have he := starEach_ne (hne e1 (List.mem_cons_self ..)) rest X.env
    have hpl := starEach_any rest X.env (fun y hy => hne y (List.mem_cons_of_mem _ hy)) pos
    refine PySem.W.callWith_K (h₀ := X.base) I.ok.mod.kin hk (thn (ha.run pos pins s τ H (fun vs H1 => spF X.K F G k f vs H1 Q) I ⟨σ, S, _, rs, r, w, fun ds S1 vs H1 _ f1 r1 q1 w1 => ⟨ds, S1, Q', q1, r1, w1, kk.on f1⟩⟩) fun us s1 ⟨vs, H1, I1, rv, q⟩ => ⟨I1.kIn, ?_⟩) he hpl
    exact runG fg g.room g.quiet hb I1 rv q
theorem Good.no (g : Good F G L k X) {x : Str} (h : x ∈ bltNames) : X.mg x = none := g.blt x h
theorem bt_fact (f : Bt) : f.nm ∈ bltNames ∧ f.nm ≠ "__name__" ∧ (f.nm == ("__debug__" : Str)) = false ∧ bootBuiltins f.nm = some f.val := by
  cases f <;> exact ⟨by decide +kernel, by decide +kernel, by decide +kernel, by decide +kernel⟩
theorem bt_val (f : Bt) : (∃ id, f.val = .builtin id) ∨ ∃ T, f.val = .type T := by
  cases f <;> first | exact .inl ⟨_, rfl⟩ | exact .inr ⟨_, rfl⟩
theorem se_blt {f : Bt} {p : Pos} {l : List E} {es : List Expr} (g : Good F G L k X) (hg : Gl X f.nm) (he : ∀ u q, e ≠ .Starred u q) (hne : ∀ e ∈ es, ∀ u q, e ≠ .Starred u q) (ha : PA X (e :: es) (tEs X.K (W F G k) G l)) :
    PE X (.Call (.Name f.nm p) (e :: es) [] pos) (tE X.K (W F G k) G (.blt f l)) := by
  obtain ⟨h1, h2, h3, h4⟩ := bt_fact f
  have s1 := starEach_ne he es X.env
  have s2 := starEach_any es X.env hne pos
  have c := cr_all' g.calm g.un g.quiet f
  have fin : ∀ τ H Q, tE X.K (W F G k) G (.blt f l) τ H Q → tCB (Mp.rB X.K f) (tEs X.K (W F G k) G l) τ H Q := fun τ H Q ⟨σ, S, Q', rs, r, w, kk⟩ => by
    simp only [wpE] at w
    exact ⟨σ, S, _, rs, r, w, fun ds S1 vs H1 _ f1 r1 q1 w1 => pB_ok r1 q1 (kk.on f1) w1⟩
  rcases bt_val f with ⟨id, e1⟩ | ⟨T, e1⟩
  · rw [e1] at c h4
    exact PE.imp (pe_callB c hg (g.no h1) h4 ha h2 h3 s1 s2) fin
  · rw [e1] at c h4
    exact PE.imp (pe_callTy c hg (g.no h1) h4 ha h2 h3 s1 s2) fin
theorem ty_fact (t : Ty) : t.nm ∈ bltNames ∧ t.nm ≠ "__name__" ∧ (t.nm == ("__debug__" : Str)) = false ∧ bootBuiltins t.nm = some (.type t.name) := by
  cases t <;> exact ⟨by decide +kernel, by decide +kernel, by decide +kernel, by decide +kernel⟩
theorem ty_of {n : Str} {t : Ty} (h : tyOf? n = some t) : n ∈ bltNames ∧ n ≠ "__name__" ∧ (n == ("__debug__" : Str)) = false ∧ bootBuiltins n = some (.type t.name) := by
  have z := List.find?_some (p := fun b : Ty => decide (n = b.nm)) h
  have e : n = t.nm := of_decide_eq_true z
  subst e
  exact ty_fact t
theorem isi_boot : bootBuiltins "isinstance" = some (.builtin "isinstance") := by decide +kernel
theorem se_isi {p q : Pos} {n : Str} {t : Ty} (g : Good F G L k X) (hi : Gl X "isinstance") (ht : Gl X n) (hn : tyOf? n = some t) (he : ∀ u q, a ≠ .Starred u q) (ha : PE X a (tE X.K (W F G k) G x)) :
    PE X (.Call (.Name "isinstance" p) [a, .Name n q] [] pos) (tE X.K (W F G k) G (.isi x t)) := by
  obtain ⟨h1, h2, h3, h4⟩ := ty_of hn
  have hb : PE X (.Name n q) (tC (.ty t.name)) := pe_bltn ht (g.no h1) h4 rfl h2 h3
  refine PE.imp (pe_callB call_isi hi (g.no (by decide +kernel)) isi_boot (pa_cons ha (pa_cons hb pa_nil rfl) (starEach_ne he _ _)) (by decide +kernel) (by decide +kernel) (starEach_ne he _ _) rfl) fun τ H Q ⟨σ, S, Q', rs, r, w, kk⟩ => ?_
  simp only [wpE] at w
  exact tE.mk rs r w fun d S1 v H1 f1 r1 q1 w1 => pIsi_ok r1 q1 (fun b h => (kk.on f1).at r1 (.bl _) h) w1
/-! ### methods -/
theorem mt_fact (m : Mt) (h : m ≠ .get) : ∃ id, Slot "list" m.nm id ∧ typeOf (.builtin id) = pure (.type "method_descriptor") ∧ ∀ X : Cx, MtR X id (rM X.K m) := by
  cases m with
  | append => exact ⟨_, PySem.F.slot_list_append, PySem.F.type_list_append, fun X => mt_append⟩
  | extend => exact ⟨_, PySem.F.slot_list_extend, PySem.F.type_list_extend, fun X => mt_extend⟩
  | pop => exact ⟨_, PySem.F.slot_list_pop, PySem.F.type_list_pop, fun X => mt_pop⟩
  | get => exact absurd rfl h
theorem base_of {o : Expr} {f : Str} (h : ∀ p q r, o ≠ .Call (.Name p q) [] [] r) (env : PySem.Env) : attributeBase o f env (eval o env) = eval o env := by
  unfold attributeBase
  split
  · rename_i q r s; exact absurd rfl (h _ _ _)
  · rfl
theorem mTy_ok {K : PySem.W.Frag} {S : Sto} {H : Hp} {m : Mt} {d : D} {v : V} (r : RS K S H) (q : RD K H d v) (h : mTy m d S) : m ≠ .get ∧ tyV K "list" v H := by
  unfold mTy at h
  split at h
  · obtain ⟨u, h⟩ := h; cases q; obtain ⟨vs, z, _⟩ := r.lst h; exact ⟨by decide, .inl ⟨rfl, vs, .of z⟩⟩
  · obtain ⟨u, h⟩ := h; cases q; obtain ⟨vs, z, _⟩ := r.lst h; exact ⟨by decide, .inl ⟨rfl, vs, .of z⟩⟩
  · obtain ⟨u, h⟩ := h; cases q; obtain ⟨vs, z, _⟩ := r.lst h; exact ⟨by decide, .inl ⟨rfl, vs, .of z⟩⟩
  · exact h.elim
theorem se_mth {m : Mt} {o : Expr} {ap : Pos} {l : List E} {es : List Expr} (hm : m ≠ .get) (hb : ∀ p q r, o ≠ .Call (.Name p q) [] [] r) (hline : (ap.endLine == pos.line) = true) (hne : ∀ e ∈ es, ∀ u q, e ≠ .Starred u q) (h10 : es.length ≤ 10) (hl : l.length = es.length)
    (ho : PE X o (tE X.K (W F G k) G x)) (ha : PA X es (tEs X.K (W F G k) G l)) : PE X (.Call (.Attribute o m.nm ap) es [] pos) (tE X.K (W F G k) G (.mth m x l)) := by
  obtain ⟨id, sl, ty, mt⟩ := mt_fact m hm
  cases es with
  | nil =>
    cases l with
    | cons _ _ => cases hl
    | nil =>
      refine PE.imp (pe_bm0 PySem.F.plainAttrs_list sl ty (mt X) ho (base_of hb _) hline) fun τ H Q ⟨σ, S, Q', rs, r, w, kk⟩ => ?_
      simp only [wpE, wpEs] at w
      exact tE.mk rs r w fun d S1 v H1 f1 r1 q1 w1 => ⟨(mTy_ok r1 q1 w1.1).2, pM_ok r1 q1 .nil (kk.on f1) w1.2⟩
  | cons e1 rest =>
    have he := starEach_ne (hne e1 (List.mem_cons_self ..)) rest X.env
    have hpl := starEach_any rest X.env (fun y hy => hne y (List.mem_cons_of_mem _ hy)) pos
    have hfew : ((backTo pos (starEach (e1 :: rest) X.env)).all (fun x => !x.1) && (backToKw pos (keywordEach [] X.env)).all (fun x => x.1.isSome)
      && decide ((e1 :: rest).length + ([] : List Keyword).length + (if ([] : List Keyword).isEmpty then 0 else 1) < 30)) = true := by
      have z := starEach_any (e1 :: rest) X.env hne pos
      have z' : (backTo pos (starEach (e1 :: rest) X.env)).all (fun x => !x.1) = true := by
        rw [List.any_eq_false] at z
        rw [List.all_eq_true]
        intro t ht
        have := z t ht
        simpa using this
      rw [z']
      have : (e1 :: rest).length < 30 := by omega
      simp only [Bool.true_and, Bool.and_eq_true, decide_eq_true_eq]
      exact ⟨rfl, by simpa using this⟩
    refine PE.imp (pe_bm PySem.F.plainAttrs_list sl ty (mt X) ho ha (base_of hb _) hfew hline he hpl) fun τ H Q ⟨σ, S, Q', rs, r, w, kk⟩ => ?_
    simp only [wpE] at w
    exact tE.mk rs r w fun d S1 v H1 f1 r1 q1 w1 => ⟨(mTy_ok r1 q1 w1.1).2, σ, S1, _, rs.stay (f1.stay r), r1, w1.2, fun ds S2 vs H2 _ f2 r2 q2 w2 => pM_ok r2 (q1.stay (f2.stay r1)) q2 (kk.on (f1.trans f2)) w2⟩
/-! ### items, slices -/
theorem se_ix (hp : plainIx b = true) (ha : PE X a (tE X.K (W F G k) G x)) (hb : PE X b (tE X.K (W F G k) G y)) : PE X (.Subscript a b pos) (tE X.K (W F G k) G (.ix x y)) := by
  have hs : PlainIx b := fun o i => by
    cases b <;> first | rfl | cases hp
  refine PE.imp (pe_ix ix_seq ha hb hs) fun τ H Q ⟨σ, S, Q', rs, r, w, kk⟩ => ?_
  simp only [wpE] at w
  exact tE.mk rs r w fun d S1 v H1 f1 r1 q1 w1 => tE.mk (rs.stay (f1.stay r)) r1 w1 fun d2 S2 u H2 f2 r2 q2 w2 => pIx_ok r2 (q1.stay (f2.stay r1)) q2 (kk.on (f1.trans f2)) w2
theorem so_none : PO X none (tO X.K (W F G k) G []) := PO.imp po_none fun τ H Q ⟨σ, S, Q', rs, r, w, kk⟩ => by
  simp only [wpEs] at w
  obtain ⟨i, e, w⟩ := w
  cases e
  exact kk _ _ _ .refl r w
theorem so_some (ha : PE X a (tE X.K (W F G k) G x)) : PO X (some a) (tO X.K (W F G k) G [x]) := PO.imp (po_some ha) fun τ H Q ⟨σ, S, Q', rs, r, w, kk⟩ => by
  simp only [wpEs] at w
  refine tE.mk rs r w fun d S1 v H1 f1 r1 q1 w1 => ?_
  obtain ⟨i, e, w1⟩ := w1
  cases q1 with
  | int j => cases e; exact ⟨j, rfl, kk _ _ _ f1 r1 w1⟩
  | _ => cases e
theorem se_sl {lo hi : Option Expr} {l h : List E} {p : Pos} (ha : PE X a (tE X.K (W F G k) G x)) (hl : PO X lo (tO X.K (W F G k) G l)) (hh : PO X hi (tO X.K (W F G k) G h)) : PE X (.Subscript a (.Slice lo hi none p) pos) (tE X.K (W F G k) G (.sl x l h)) := by
  refine PE.imp (pe_slice sl_all ha hl hh) fun τ H Q ⟨σ, S, Q', rs, r, w, kk⟩ => ?_
  simp only [wpE] at w
  refine tE.mk rs r w fun d S1 v H1 f1 r1 q1 w1 => ⟨σ, S1, _, rs.stay (f1.stay r), r1, w1, fun i S2 H2 f2 r2 w2 => ⟨σ, S2, _, rs.stay ((f1.trans f2).stay r), r2, w2, fun j S3 H3 f3 r3 w3 => ?_⟩⟩
  exact pSl_ok r3 (q1.stay ((f2.trans f3).stay r1)) (kk.on ((f1.trans f2).trans f3)) w3
end
end Mp

namespace Mp
open PySem L2 PySem.Spec PyProof.Rows

/-! ## what a loop walks -/
/-- an iterator gives these items while chk holds -/
structure ItOk (K : PySem.W.Frag) (J : It) (u : List D) (chk : Sto → Prop) (S1 : Sto) (H1 : Hp) : Prop where
  go : ∀ (i : Nat) S' H', i < u.length → Fr S1 H1 S' H' → RS K S' H' → chk S' → J.go i H'
  yld : ∀ (i : Nat) (d : D) S' H' x H'', u[i]? = some d → Fr S1 H1 S' H' → RS K S' H' → chk S' → J.yld i H' x H'' → RD K H'' d x ∧ RS K S' H'' ∧ Fr S' H' S' H''
  stop : ∀ (i : Nat) S' H', u.length ≤ i → Fr S1 H1 S' H' → RS K S' H' → chk S' → J.stop i H'
def iM (K : PySem.W.Frag) (Wf : Callee) (G : Str → Option Str) (kk : Ik) (its : List E) : TI := fun τ H R => ∃ (σ : Sl) (S : Sto) (Q' : List D → (Sto → Prop) → Sto → Prop), RSl K H σ τ ∧ RS K S H ∧
  wpEs Wf G its σ S X0 (fun xs S1 => pItK kk xs S1 fun u chk => Q' u chk S1) ∧ ∀ u chk S1 H1 J, Fr S H S1 H1 → RS K S1 H1 → ItOk K J u chk S1 H1 → Q' u chk S1 → R J H1
theorem PI.imp {X : Cx} {tg e : Expr} {t t' : TI} (h : PI X tg e t) (f : ∀ σ H Q, t' σ H Q → t σ H Q) : PI X tg e t' := ⟨fun pins s σ H Q I q => h.run pins s σ H Q I (f σ H Q q)⟩
section
variable {X : Cx} {F : Str → Option Fn} {G : Str → Option Str} {L : List Str} {k : Nat} {a b c e tg : Expr} {x y z : E} {pos : Pos}
/-- a list, a tuple, a text by its value -/
def iVal (K : PySem.W.Frag) (te : TE) : TI := fun σ H R => te σ H fun v H1 => (∃ a xs, v = .ref a ∧ SqL K H1 a xs ∧ R (Itl K a) H1) ∨ (∃ a xs, v = .ref a ∧ SqT K H1 a xs ∧ R (Itt K a) H1) ∨ ∃ z, v = .str z ∧ R (Its z) H1
theorem pi_valM {te : TE} (he : PE X e te) : PI X tg e (iVal X.K te) := by
  constructor
  intro pins s σ H R I h
  refine thn (he.run pins s σ H _ I h) ?_
  rintro v s1 ⟨y, H1, I1, r1, ⟨a, xs, rfl, sq, q⟩ | ⟨a, xs, rfl, sq, q⟩ | ⟨z, rfl, q⟩⟩
  · cases r1
    obtain ⟨its, _, pl, _⟩ := I1.list sq
    exact wpAny_pyIter_list pl.isList (pi_one (tk := s1.toks) I1 _ (turn_list a _) ⟨_, Heap.get?_push_size _ rfl, rfl, rfl⟩ q)
  · cases r1
    obtain ⟨its, _, pl, _⟩ := I1.tuple sq
    exact wpAny_pyIter_tuple pl (pi_one (tk := s1.toks) I1 _ (turn_tuple a _) ⟨_, Heap.get?_push_size _ rfl, rfl, rfl⟩ q)
  · obtain ⟨t, rfl⟩ := r1
    by_cases ha : z.cps.all (· < 128) = true
    · exact wpAny_pyIter_ascii ha (pi_one (tk := s1.toks) I1 _ (turn_str _ z t _ (.inl rfl)) ⟨_, Heap.get?_push_size _ rfl, rfl, rfl⟩ q)
    · exact wpAny_pyIter_wide (by simpa using ha) (pi_one (tk := s1.toks) I1 _ (turn_str _ z t _ (.inr rfl)) ⟨_, Heap.get?_push_size _ rfl, rfl, rfl⟩ q)
theorem itok_lst {K : PySem.W.Frag} {a : Addr} {u : List D} {S1 : Sto} {H1 : Hp} : ItOk K (Itl K a) u (fun S => S a = some (.lst u)) S1 H1 where
  go := fun i S' H' hi _ r h => by
    obtain ⟨vs, z, q⟩ := r.lst h
    obtain ⟨w, hw, _⟩ := q.get (List.getElem?_eq_getElem hi)
    exact ⟨vs, w, .of z, hw⟩
  yld := fun i d S' H' x H'' hd _ r h y => by
    obtain ⟨e, y⟩ := y
    subst e
    obtain ⟨vs, z, q⟩ := r.lst h
    obtain ⟨w, hw, rd⟩ := q.get hd
    have := y vs (.of z)
    rw [hw] at this; cases this
    exact ⟨rd, r, .refl⟩
  stop := fun i S' H' hi _ r h => by
    obtain ⟨vs, z, q⟩ := r.lst h
    exact ⟨vs, .of z, by rw [← q.length]; exact hi⟩
theorem itok_tup {K : PySem.W.Frag} {a : Addr} {u : List D} {vs : List V} {S1 : Sto} {H1 : Hp} (r1 : RS K S1 H1) (z : H1 a = some (.tup vs)) (q : RDs K H1 u vs) : ItOk K (Itt K a) u (fun _ => True) S1 H1 where
  go := fun i S' H' hi f r _ => by
    obtain ⟨w, hw, _⟩ := q.get (List.getElem?_eq_getElem hi)
    exact ⟨vs, w, .of ((f.stay r1).1 _ _ z), hw⟩
  yld := fun i d S' H' x H'' hd f r _ y => by
    obtain ⟨e, y⟩ := y
    subst e
    obtain ⟨w, hw, rd⟩ := q.get hd
    have := y vs (.of ((f.stay r1).1 _ _ z))
    rw [hw] at this; cases this
    exact ⟨rd.stay (f.stay r1), r, .refl⟩
  stop := fun i S' H' hi f r _ => ⟨vs, .of ((f.stay r1).1 _ _ z), by rw [← q.length]; exact hi⟩
theorem itok_scr {K : PySem.W.Frag} {a : Addr} {u : List Int} {S1 : Sto} {H1 : Hp} (r1 : RS K S1 H1) (z : ScrAt K H1 a (u.map V.int)) : ItOk K (Itl K a) (u.map .int) (fun _ => True) S1 H1 := by
  have st : ∀ S' H', Fr S1 H1 S' H' → SqL K H' a (u.map V.int) := fun S' H' f => by
    have s := f.stay r1
    exact ScrAt.sq (z.elim (fun ⟨o, y⟩ => .inl ⟨o, s.2 _ _ _ y⟩) .inr)
  refine ⟨fun i S' H' hi f r _ => ?_, fun i d S' H' x H'' hd f r _ y => ?_, fun i S' H' hi f r _ => ⟨_, st S' H' f, by simpa using hi⟩⟩
  · rw [List.length_map] at hi
    exact ⟨_, .int u[i], st S' H' f, by rw [List.getElem?_map, List.getElem?_eq_getElem hi]; rfl⟩
  · obtain ⟨e, y⟩ := y
    subst e
    have := y _ (st S' _ f)
    rw [List.getElem?_map] at this hd
    cases hu : u[i]? with
    | none => rw [hu] at hd; cases hd
    | some j => rw [hu] at hd this; cases hd; cases this; exact ⟨.int j, r, .refl⟩
theorem itok_str {K : PySem.W.Frag} {z : Str} {S1 : Sto} {H1 : Hp} : ItOk K (Its z) (z.cps.toList.map fun c => .str ⟨#[c]⟩) (fun _ => True) S1 H1 := by
  refine ⟨fun i S' H' hi f r _ => (by simpa using hi : i < z.cps.size), fun i d S' H' x H'' hd f r _ y => ?_, fun i S' H' hi f r _ => (by simpa using hi : z.cps.size ≤ i)⟩
  obtain ⟨e, c, hc, y⟩ := y
  subst e y
  rw [List.getElem?_map, Array.getElem?_toList, hc] at hd
  cases hd
  exact ⟨.str _, r, .refl⟩
theorem si_val (ha : PE X a (tE X.K (W F G k) G x)) : PI X tg a (iM X.K (W F G k) G .val [x]) := by
  refine PI.imp (pi_valM ha) fun τ H R ⟨σ, S, Q', rs, r, w, kk⟩ => ?_
  simp only [wpEs] at w
  refine tE.mk rs r w fun d S1 v H1 f1 r1 q1 w1 => ?_
  have w1 : pIt d S1 fun u chk => Q' u chk S1 := w1
  cases q1 with
  | tup e q => exact .inr (.inl ⟨_, _, rfl, .of e, kk _ _ _ _ _ f1 r1 (itok_tup r1 e q) w1⟩)
  | scr e => exact .inl ⟨_, _, rfl, e.sq, kk _ _ _ _ _ f1 r1 (itok_scr r1 e) w1⟩
  | str z => exact .inr (.inr ⟨z, rfl, kk _ _ _ _ _ f1 r1 itok_str w1⟩)
  | ref p =>
    unfold pIt at w1
    dsimp only at w1
    split at w1
    · rename_i e
      obtain ⟨vs, z, q⟩ := r1.lst e
      exact .inl ⟨_, _, rfl, .of z, kk _ _ _ _ _ f1 r1 itok_lst w1⟩
    · exact w1.elim
  | _ => exact w1.elim
theorem itok_rng {K : PySem.W.Frag} {lo hi : Int} {n : Nat} (hn : n = (hi - lo).toNat) {S1 : Sto} {H1 : Hp} : ItOk K (Itr lo n) (rgOf lo hi) (fun _ => True) S1 H1 := by
  subst hn
  have ln : (rgOf lo hi).length = (hi - lo).toNat := by simp [rgOf]
  refine ⟨fun i S' H' hi f r _ => (by rw [ln] at hi; exact hi), fun i d S' H' x H'' hd f r _ y => ?_, fun i S' H' hi f r _ => (by rw [ln] at hi; exact hi)⟩
  obtain ⟨e, y⟩ := y
  subst e y
  unfold rgOf at hd
  rw [List.getElem?_map] at hd
  cases h : (List.range (hi - lo).toNat)[i]? with
  | none => rw [h] at hd; cases hd
  | some j =>
    rw [h] at hd
    cases hd
    obtain ⟨_, h2⟩ := List.getElem?_eq_some_iff.mp h
    rw [List.getElem_range] at h2
    subst h2
    exact ⟨.int _, r, .refl⟩
theorem si_rng1 {p : Pos} {l : List E} (g : Good F G L k X) (hg : Gl X "range") (ha : PA X [a] (tEs X.K (W F G k) G l)) (hl : l.length = 1) (hne : ∀ u p, a ≠ .Starred u p) : PI X tg (.Call (.Name "range" p) [a] [] pos) (iM X.K (W F G k) G .rng l) := by
  refine PI.imp (pi_range1 hg (g.no (by decide +kernel)) ha (starEach_ne hne _ _)) fun τ H R ⟨σ, S, Q', rs, r, w, kk⟩ => ?_
  refine ⟨σ, S, _, rs, r, w, fun ds S1 vs H1 hd f1 r1 q1 w1 => ?_⟩
  match ds, q1, w1, hd with
  | [_], .cons (.int j) .nil, w1, _ => exact ⟨j, rfl, w1.1.1, w1.1.2, kk _ _ _ _ _ f1 r1 (itok_rng (by simp)) w1.2⟩
  | _ :: _ :: _, _, _, hd => rw [hl] at hd; cases hd
theorem si_rng2 {p : Pos} {l : List E} (g : Good F G L k X) (hg : Gl X "range") (ha : PA X [a, b] (tEs X.K (W F G k) G l)) (hl : l.length = 2) (hne : ∀ u p, a ≠ .Starred u p) (hne2 : ∀ u p, b ≠ .Starred u p) :
    PI X tg (.Call (.Name "range" p) [a, b] [] pos) (iM X.K (W F G k) G .rng l) := by
  refine PI.imp (pi_range2 hg (g.no (by decide +kernel)) ha (by rw [starEach_ne hne, starEach_ne hne2]; rfl) (starEach_ne hne2 _ _)) fun τ H R ⟨σ, S, Q', rs, r, w, kk⟩ => ?_
  refine ⟨σ, S, _, rs, r, w, fun ds S1 vs H1 hd f1 r1 q1 w1 => ?_⟩
  match ds, hd with
  | [d1, d2], _ =>
    cases q1 with
    | cons qa qb => cases qb with
      | cons qb qc =>
        cases qc
        cases qa <;> first | exact w1.elim | skip
        cases qb <;> first | exact w1.elim | skip
        exact ⟨_, _, rfl, ⟨w1.1.1.1, w1.1.1.2, w1.1.2.1, w1.1.2.2⟩, kk _ _ _ _ _ f1 r1 (itok_rng rfl) w1.2⟩
  | [], hd => rw [hl] at hd; cases hd
  | [_], hd => rw [hl] at hd; cases hd
  | _ :: _ :: _ :: _, hd => rw [hl] at hd; cases hd
/-! ### targets -/
def gNames : List Nat → TGs
  | [] => gNil
  | i :: is => gCons (gName i) (gNames is)
def gOf (K : PySem.W.Frag) : Tg → TG
  | .one i => gName i
  | .tup is => gTup K is.length (gNames is)
theorem gNames_ok {K : PySem.W.Frag} {H : Hp} {R : Sl → Prop} {Q : L2.St → Hp → Prop} : ∀ {is : List Nat} {ds : List D} {vs : List V} {σ : Sl} {τ : L2.St}, RDs K H ds vs → ds.length = is.length → RSl K H σ τ → R (setAll is ds σ) →
    (∀ σ' τ', σ' = setAll is ds σ → RSl K H σ' τ' → (∀ own : List Nat, (∀ i ∈ is, i ∈ own) → wipe τ' own = wipe τ own) → Q τ' H) → gNames is vs τ H Q
  | [], _, _, σ, τ, .nil, _, rs, h, q => ⟨rfl, q σ τ rfl rs fun _ _ => rfl⟩
  | [], _, _, _, _, .cons _ _, hl, _, _, _ => by cases hl
  | i :: is, _, _, _, _, .nil, hl, _, _, _ => by cases hl
  | i :: is, d :: ds, v :: vs, σ, τ, .cons a b, hl, rs, h, q => by
    refine ⟨v, vs, rfl, gNames_ok (is := is) b (by simpa using hl) (rs.set a i) h fun σ' τ' e rs' hw => q σ' τ' e rs' fun own ho => ?_⟩
    rw [hw own fun j hj => ho j (List.mem_cons_of_mem _ hj)]
    have hi := ho i (List.mem_cons_self ..)
    clear hw ho q h rs hl rs' e
    induction own with
    | nil => cases hi
    | cons w ws ih =>
      unfold wipe
      by_cases e : i = w
      · subst e
        by_cases m : i ∈ ws
        · rw [ih m]
        · have out : ∀ (l : List Nat), i ∉ l → (wipe (τ.set i (some v)) l).set i none = (wipe τ l).set i none := by
            intro l
            induction l with
            | nil => intro _; unfold wipe; rw [List.set_set]
            | cons y l ih2 =>
              intro hm
              rw [List.mem_cons, not_or] at hm
              unfold wipe
              rw [List.set_comm _ _ (fun z => hm.1 z.symm), ih2 hm.2, List.set_comm _ _ hm.1]
          exact out ws m
      · rw [ih ((List.mem_cons.mp hi).resolve_left e)]
theorem gOf_ok {K : PySem.W.Frag} {H : Hp} {R : Sl → Prop} {Q : L2.St → Hp → Prop} {t : Tg} {d : D} {v : V} {σ : Sl} {τ : L2.St} (q : RD K H d v) (rs : RSl K H σ τ) (h : wpTg t d σ R)
    (kk : ∀ σ' τ', R σ' → RSl K H σ' τ' → (∀ own : List Nat, (∀ i ∈ t.slots, i ∈ own) → wipe τ' own = wipe τ own) → Q τ' H) : gOf K t v τ H Q := by
  cases t with
  | one i =>
    have z := gNames_ok (is := [i]) (R := R) (Q := Q) (.cons q .nil) rfl rs h (fun σ' τ' e rs' hw => kk σ' τ' (by rw [e]; exact h) rs' fun own ho => hw own ho)
    obtain ⟨w, r, e, z⟩ := z
    cases e
    exact z.2
  | tup is =>
    cases q with
    | tup e q' => exact ⟨_, _, rfl, .of e, by rw [← q'.length]; exact h.1, gNames_ok q' h.1 rs h.2 fun σ' τ' e rs' hw => kk σ' τ' (by rw [e]; exact h.2) rs' fun own ho => hw own ho⟩
    | _ => exact h.elim
theorem storeOf_ok {N : List Str} {sc : Scope} {e : Expr} {i : Nat} (h : storeOf N sc e = some i) : ∃ x p, e = .Name x p ∧ Loc sc x ∧ N[i]? = some x := by
  have slot : ∀ (x : Str) (N : List Str) (k i : Nat), slotOf N x k = some i → k ≤ i ∧ N[i - k]? = some x := by
    intro x N
    induction N with
    | nil => intro k i h; cases h
    | cons y r ih =>
      intro k i h
      unfold slotOf at h
      split at h
      · rename_i e; cases h; subst e; exact ⟨Nat.le_refl _, by simp⟩
      · obtain ⟨h1, h2⟩ := ih (k + 1) i h
        refine ⟨by omega, ?_⟩
        have : i - k = (i - (k + 1)) + 1 := by omega
        rw [this]; simpa using h2
  unfold storeOf at h
  split at h
  · rename_i x p
    split at h
    · rename_i e; exact ⟨x, p, rfl, .inl e, (slot x N 0 i h).2⟩
    · rename_i e; exact ⟨x, p, rfl, .inr e, (slot x N 0 i h).2⟩
    · cases h
  · cases h
/-- the names that a scope stores are stored in the frame that runs -/
def Stores (X : Cx) (sc : Scope) : Prop := ∀ x, Loc sc x → Loc X.env.scope x ∧ (X.fn x = true ∨ X.env.scope.names.lookup x = some .local)
theorem storesOf_ok {N : List Str} {sc : Scope} (hN : X.N = N) (nd : N.Nodup) (hf : Stores X sc) : ∀ {es : List Expr} {is : List Nat}, storesOf N sc es = some is → PGs X es (gNames is) ∧ es.length = is.length ∧ ∀ e ∈ es, ∃ x p, e = .Name x p
  | [], is, h => by cases h; exact ⟨pgs_nil, rfl, fun _ z => nomatch z⟩
  | e :: es, is, h => by
    unfold storesOf at h
    split at h
    · rename_i i l h1 h2
      cases h
      obtain ⟨x, p, rfl, hl, hi⟩ := storeOf_ok h1
      obtain ⟨a, b, c⟩ := storesOf_ok hN nd hf h2
      obtain ⟨hl, hfx⟩ := hf x hl
      refine ⟨pgs_cons (pg_name (by rw [hN]; exact nd) (by rw [hN]; exact hi) hl hfx) a, congrArg (· + 1) b, fun e he => ?_⟩
      rcases List.mem_cons.mp he with rfl | he
      · exact ⟨x, p, rfl⟩
      · exact c e he
    · cases h
theorem assignEach_names : ∀ {es : List Expr} {env : PySem.Env}, (∀ e ∈ es, ∃ x p, e = .Name x p) → (assignEach es env).length = es.length ∧ (assignEach es env).findIdx? (·.1) = none
  | [], _, _ => ⟨rfl, rfl⟩
  | e :: es, env, h => by
    obtain ⟨x, p, rfl⟩ := h e (List.mem_cons_self ..)
    obtain ⟨a, b⟩ := assignEach_names (env := env) fun y hy => h y (List.mem_cons_of_mem _ hy)
    refine ⟨congrArg (· + 1) a, ?_⟩
    show ((false, assign (.Name x p) env) :: assignEach es env).findIdx? (·.1) = none
    rw [List.findIdx?_cons]
    simp [b]
theorem sg_of {N : List Str} {sc : Scope} {t : Tg} (hN : X.N = N) (nd : N.Nodup) (hc : X.calm = true) (hf : Stores X sc) (h : trTg N sc tg = some t) : PG X tg (gOf X.K t) := by
  unfold trTg at h
  split at h
  · rename_i es j p
    cases e : storesOf N sc es with
    | none => rw [e] at h; cases h
    | some is =>
      rw [e] at h; cases h
      obtain ⟨a, b, c⟩ := storesOf_ok hN nd hf e
      obtain ⟨l1, l2⟩ := assignEach_names (env := X.env) c
      exact pg_tup hc a (by rw [l1, b]) l2
  · cases e : storeOf N sc tg with
    | none => rw [e] at h; cases h
    | some i =>
      rw [e] at h; cases h
      obtain ⟨x, p, rfl, hl, hi⟩ := storeOf_ok e
      obtain ⟨hl, hfx⟩ := hf x hl
      exact pg_name (by rw [hN]; exact nd) (by rw [hN]; exact hi) hl hfx
end
end Mp

namespace Mp
open PySem L2 PySem.Spec PyProof.Rows

/-! ## list comprehensions -/
section
variable {K : PySem.W.Frag} {S S' : Sto} {H H' : Hp}
/-- a list outside the store is changed -/
theorem stay_lst {p : Addr} {vs : List V} (h : H p = some (.lst vs)) (o : HO) : Stay H (upd H p o) :=
  ⟨fun q ws z => by rw [upd_ne (fun c => by subst c; rw [h] at z; cases z)]; exact z, fun q ob ws z => by rw [upd_ne (fun c => by subst c; rw [h] at z; cases z)]; exact z⟩
theorem RS.side (r : RS K S H) {p : Addr} {vs : List V} (n : S p = none) (h : H p = some (.lst vs)) (o : HO) : RS K S (upd H p o) := fun a u e => by
  have ne : a ≠ p := fun c => by subst c; rw [n] at e; cases e
  exact (r a u e).stay (stay_lst h o) (upd_ne ne)
theorem wipe_at {τ : L2.St} {j : Nat} : ∀ (l : List Nat), j ∈ l → (wipe τ l)[j]? = some none ∨ (wipe τ l)[j]? = none
  | y :: l, h => by
    show ((wipe τ l).set y none)[j]? = some none ∨ ((wipe τ l).set y none)[j]? = none
    by_cases e : y = j
    · subst e
      by_cases hl : y < (wipe τ l).length
      · rw [List.getElem?_set_self hl]; exact .inl rfl
      · rw [List.getElem?_eq_none (by simp; omega)]; exact .inr rfl
    · rw [List.getElem?_set_ne e]
      exact wipe_at l ((List.mem_cons.mp h).resolve_left (fun z => e z.symm))
theorem wipe_idem {τ : L2.St} (l : List Nat) : ∀ (l' : List Nat), (∀ j ∈ l', j ∈ l) → wipe (wipe τ l) l' = wipe τ l
  | [], _ => rfl
  | j :: l', hs => by
    show (wipe (wipe τ l) l').set j none = wipe τ l
    rw [wipe_idem l l' fun x hx => hs x (List.mem_cons_of_mem _ hx)]
    apply List.ext_getElem?
    intro i
    by_cases e : j = i
    · subst e
      by_cases hl : j < (wipe τ l).length
      · rw [List.getElem?_set_self hl]
        rcases wipe_at (τ := τ) l (hs j (List.mem_cons_self ..)) with q | q
        · rw [q]
        · rw [List.getElem?_eq_getElem hl] at q; cases q
      · rw [List.getElem?_eq_none (by simp; omega), List.getElem?_eq_none (by omega)]
    · rw [List.getElem?_set_ne e]
theorem Pts.nil {X : Cx} {Wf : Callee} {G : Str → Option Str} : PTs X [] (tT X.K Wf G (.bl true)) := PTs.imp pts_nil fun τ H Q ⟨σ, S, Q', rs, r, w, k⟩ => by
  simp only [wpE] at w
  obtain ⟨b, e, w⟩ := w
  cases e
  exact k true S H .refl r w
/-- the reading of a comprehension -/
theorem lc_read {Wf : Callee} {G : Str → Option Str} {kk : Ik} {its : List E} {t : Tg} {c x : E} {own : List Nat} (ho : ∀ i ∈ t.slots, i ∈ own) {τ : L2.St} {H : Hp} {Q : VK}
    (h : tE K Wf G (.lc own t kk its c x) τ H Q) : tLc (iM K Wf G kk its) (gOf K t) (tT K Wf G c) (tE K Wf G x) own τ H Q := by
  obtain ⟨σ, S, Q', rs, r, w, k⟩ := h
  simp only [wpE] at w
  refine ⟨σ, S, _, rs, r, w, fun u chk S1 H1 J f1 r1 io w1 => fun Dp hD => ?_⟩
  have n1 : S1 Dp = none := r1.fresh hD
  -- what holds at turn i
  refine ⟨fun i m H2 => m = u.length - i ∧ i ≤ u.length ∧ ∃ (acc : List D) (av : List V) (S2 : Sto), Fr S1 H1 S2 H2 ∧ RS K S2 H2 ∧ S2 Dp = none ∧ H2 Dp = some (.lst av) ∧ RDs K H2 acc av ∧
    wpLC chk (fun x S2 R => wpTg t x (wipeD σ own) fun σ2 => wpE Wf G c σ2 S2 X0 fun d S3 => ∃ b, d = .bl b ∧ if b = true then wpE Wf G _ σ2 S3 X0 (fun y S4 => R (some y) S4) else R none S3) (u.drop i) acc S2 fun row S5 => pNew (.lst row) S5 Q',
    ⟨u.length, by simp, Nat.zero_le _, [], [], S1, Fr.out hD _, r1.out hD _, n1, upd_same, .nil, by simpa using w1⟩, ?_⟩
  rintro i m H2 ⟨rfl, hi, acc, av, S2, f2, r2, n2, e2, q2, w2⟩
  by_cases hlt : i < u.length
  · rw [List.drop_eq_getElem_cons hlt] at w2
    unfold wpLC at w2
    obtain ⟨ck, w2⟩ := w2
    refine .inr ⟨io.go i S2 H2 hlt f2 r2 ck, fun H3 => (i + 1 ≤ u.length ∧ ∃ (acc : List D) (av : List V) (S2 : Sto), Fr S1 H1 S2 H3 ∧ RS K S2 H3 ∧ S2 Dp = none ∧ H3 Dp = some (.lst av) ∧ RDs K H3 acc av ∧
      wpLC chk (fun x S2 R => wpTg t x (wipeD σ own) fun σ2 => wpE Wf G c σ2 S2 X0 fun d S3 => ∃ b, d = .bl b ∧ if b = true then wpE Wf G _ σ2 S3 X0 (fun y S4 => R (some y) S4) else R none S3) (u.drop (i + 1)) acc S2 fun row S5 => pNew (.lst row) S5 Q'),
      fun H3 z => ⟨u.length - (i + 1), by omega, rfl, z.1, z.2⟩, fun xv H3 y => ?_⟩
    obtain ⟨rd, r3, f3⟩ := io.yld i u[i] S2 H2 xv H3 (List.getElem?_eq_getElem hlt) f2 r2 ck y
    have hD3 := f3 Dp _ n2 e2
    have stay1 : Stay H H3 := (f1.trans (f2.trans f3)).stay r
    refine gOf_ok rd ((rs.stay stay1).wipe own) w2 fun σ4 τ4 w4 rs4 hw => ⟨?_, σ4, S2, _, rs4, r3, w4, fun b S5 H5 f5 r5 w5 => ?_⟩
    · have z := hw own ho
      rw [z, wipe_idem own own fun _ h => h]
    · cases b with
      | false =>
        rw [if_neg Bool.false_ne_true] at w5 ⊢
        obtain ⟨n5, e5⟩ := f5 Dp _ hD3.1 hD3.2
        exact ⟨hlt, acc, av, S5, f2.trans (f3.trans f5), r5, n5, e5, q2.stay ((f3.trans f5).stay r2), w5⟩
      | true =>
        rw [if_pos rfl] at w5 ⊢
        refine tE.mk (rs4.stay (f5.stay r3)) r5 w5 fun y S6 yv H6 f6 r6 q6 w6 => ?_
        obtain ⟨n5, e5⟩ := f5 Dp _ hD3.1 hD3.2
        obtain ⟨n6, e6⟩ := f6 Dp _ n5 e5
        have st6 : Stay H2 H6 := (f3.trans (f5.trans f6)).stay r2
        have q2' := q2.stay st6
        refine ⟨av, e6, by rw [← q2.length]; exact w6.1, hlt, acc ++ [y], av ++ [yv], S6, fun p o hp hq => ?_, r6.side n6 e6 _, n6, upd_same, (q2'.append (.cons q6 .nil)).stay (stay_lst e6 _), w6.2⟩
        have z := (f2.trans (f3.trans (f5.trans f6))) p o hp hq
        have ne : p ≠ Dp := fun c => by subst c; rw [hD] at hq; cases hq
        exact ⟨z.1, by rw [upd_ne ne]; exact z.2⟩
  · have e : i = u.length := by omega
    subst e
    rw [List.drop_eq_nil_of_le (Nat.le_refl _)] at w2
    unfold wpLC at w2
    obtain ⟨ck, w2⟩ := w2
    refine .inl ⟨io.stop _ S2 H2 (Nat.le_refl _) f2 r2 ck, ?_⟩
    refine k (.ref Dp) (S2.put Dp (.lst acc)) _ _ (fun p o hp hq => ?_) (fun a o e => ?_) (.ref Dp) (w2 Dp n2)
    · have z := (f1.trans f2) p o hp hq
      have hq1 := (f1 p o hp hq).2
      have ne : p ≠ Dp := fun c => by subst c; rw [hD] at hq1; cases hq1
      exact ⟨by rw [put_ne ne]; exact z.1, z.2⟩
    · by_cases ha : a = Dp
      · subst ha; rw [put_same] at e; cases e; exact ⟨av, e2, q2⟩
      · rw [put_ne ha] at e; exact r2 a o e
end
end Mp

namespace Mp
open PySem L2 PySem.Spec PyProof.Rows

/-! ## what is translated means what the language says: expressions -/
structure SndE (F : Str → Option Fn) (G : Str → Option Str) (L : List Str) (k : Nat) (N : List Str) (n : Nat) : Prop where
  E : ∀ {X : Cx} {sc : Scope} {e : Expr} {m : E}, Good F G L k X → X.N = N → X.env.scope = sc → trE N L n sc e = some m → PE X e (tE X.K (W F G k) G m)
  V : ∀ {X : Cx} {sc : Scope} {o : BoolOp} {es : List Expr} {m : Mp.E} {pos : Pos}, Good F G L k X → X.N = N → X.env.scope = sc → trV N L n sc o es = some m → PE X (.BoolOp o es pos) (tE X.K (W F G k) G m)
  T : ∀ {X : Cx} {sc : Scope} {e : Expr} {m : Mp.E}, Good F G L k X → X.N = N → X.env.scope = sc → trT N L n sc e = some m → PT X e (tT X.K (W F G k) G m)
  B : ∀ {X : Cx} {sc : Scope} {o : BoolOp} {es : List Expr} {m : Mp.E} {pos : Pos}, Good F G L k X → X.N = N → X.env.scope = sc → trW N L n sc o es = some m → PW X (.BoolOp o es pos) (tT X.K (W F G k) G m)
  Es : ∀ {X : Cx} {sc : Scope} {es : List Expr} {l : List Mp.E}, Good F G L k X → X.N = N → X.env.scope = sc → trEs N L n sc es = some l → PA X es (tEs X.K (W F G k) G l) ∧ l.length = es.length ∧ ∀ e ∈ es, ∀ u p, e ≠ .Starred u p
  O : ∀ {X : Cx} {sc : Scope} {o : Option Expr} {l : List Mp.E}, Good F G L k X → X.N = N → X.env.scope = sc → trO N L n sc o = some l → PO X o (tO X.K (W F G k) G l)
  C : ∀ {X : Cx} {sc : Scope} {ifs : List Expr} {c : Mp.E}, Good F G L k X → X.N = N → X.env.scope = sc → trC N L n sc ifs = some c → PTs X ifs (tT X.K (W F G k) G c)
  I : ∀ {X : Cx} {sc : Scope} {e tg : Expr} {kk : Ik} {l : List Mp.E}, Good F G L k X → X.N = N → X.env.scope = sc → trI N L n sc e = some (kk, l) → PI X tg e (iM X.K (W F G k) G kk l)
  nostar : ∀ {sc : Scope} {e : Expr} {m : Mp.E}, trE N L n sc e = some m → ∀ u p, e ≠ .Starred u p
section
variable {F : Str → Option Fn} {G : Str → Option Str} {L : List Str} {k : Nat} {N : List Str} {n : Nat}
theorem map_some {α β : Type} {o : Option α} {f : α → β} {y : β} (h : o.map f = some y) : ∃ x, o = some x ∧ y = f x := by
  cases o with
  | none => cases h
  | some x => exact ⟨x, rfl, (Option.some.inj h).symm⟩
theorem mt_of {x : Str} {m : Mt} (h : mtOf x = some m) : x = m.nm ∧ m ≠ .get := by
  have z := List.find?_some (p := fun b : Mt => decide (x = b.nm)) h
  refine ⟨of_decide_eq_true z, fun e => ?_⟩
  subst e
  have := List.mem_of_find?_eq_some h
  exact absurd this (by decide)
theorem bt_of {x : Str} {b : Bt} (h : btOf x = some b) : x = b.nm := by
  have z := List.find?_some (p := fun b : Bt => decide (x = b.nm)) h
  exact of_decide_eq_true z
theorem snd0 : SndE F G L k N 0 where
  E := fun _ _ _ h => by unfold trE at h; cases h
  V := fun _ _ _ h => by unfold trV at h; cases h
  T := fun _ _ _ h => by unfold trT at h; cases h
  B := fun _ _ _ h => by unfold trW at h; cases h
  Es := fun _ _ _ h => by unfold trEs at h; cases h
  O := fun _ _ _ h => by unfold trO at h; cases h
  C := fun _ _ _ h => by unfold trC at h; cases h
  I := fun _ _ _ h => by unfold trI at h; cases h
  nostar := fun h => by unfold trE at h; cases h
theorem snd_V (ih : SndE F G L k N n) {X : Cx} {sc : Scope} {o : BoolOp} {es : List Expr} {m : E} {pos : Pos} (g : Good F G L k X) (hN : X.N = N) (hs : X.env.scope = sc) (h : trV N L (n + 1) sc o es = some m) : PE X (.BoolOp o es pos) (tE X.K (W F G k) G m) := by
  unfold trV at h
  split at h
  · cases h
  · exact se_one (ih.E g hN hs h)
  · rename_i a r hr
    split at h
    · rename_i x y h1 h2
      cases r with
      | nil => exact (hr rfl).elim
      | cons b r =>
        cases o with
        | And => cases h; exact se_and (ih.E g hN hs h1) (ih.V g hN hs h2)
        | Or => cases h; exact se_or (ih.E g hN hs h1) (ih.V g hN hs h2)
    · cases h
theorem snd_B (ih : SndE F G L k N n) {X : Cx} {sc : Scope} {o : BoolOp} {es : List Expr} {m : E} {pos : Pos} (g : Good F G L k X) (hN : X.N = N) (hs : X.env.scope = sc) (h : trW N L (n + 1) sc o es = some m) : PW X (.BoolOp o es pos) (tT X.K (W F G k) G m) := by
  unfold trW at h
  split at h
  · cases h
  · cases o with
    | And => exact sw_and1 (ih.T g hN hs h)
    | Or => exact sw_or1 (ih.T g hN hs h)
  · rename_i a r hr
    split at h
    · rename_i x y h1 h2
      cases r with
      | nil => exact (hr rfl).elim
      | cons b r =>
        cases o with
        | And => cases h; exact sw_and (ih.T g hN hs h1) (ih.B g hN hs h2)
        | Or => cases h; exact sw_or (ih.T g hN hs h1) (ih.B g hN hs h2)
    · cases h
theorem snd_Es (ih : SndE F G L k N n) {X : Cx} {sc : Scope} {es : List Expr} {l : List E} (g : Good F G L k X) (hN : X.N = N) (hs : X.env.scope = sc) (h : trEs N L (n + 1) sc es = some l) :
    PA X es (tEs X.K (W F G k) G l) ∧ l.length = es.length ∧ ∀ e ∈ es, ∀ u p, e ≠ .Starred u p := by
  unfold trEs at h
  split at h
  · cases h; exact ⟨sa_nil, rfl, fun _ z => nomatch z⟩
  · cases h
  · rename_i e r hst
    split at h
    · rename_i x l' h1 h2
      cases h
      obtain ⟨a, b, c⟩ := ih.Es g hN hs h2
      have hne : ∀ u p, e ≠ .Starred u p := fun u p z => hst u p z
      refine ⟨sa_cons hne (ih.E g hN hs h1) a, congrArg (· + 1) b, fun y hy => ?_⟩
      rcases List.mem_cons.mp hy with rfl | hy
      · exact hne
      · exact c y hy
    · cases h
theorem snd_T (ih : SndE F G L k N n) {X : Cx} {sc : Scope} {e : Expr} {m : E} (g : Good F G L k X) (hN : X.N = N) (hs : X.env.scope = sc) (h : trT N L (n + 1) sc e = some m) (ihC : ∀ {a : Expr} {ops : List CmpOp} {bs : List Expr} {p : Pos} {m : E}, trE N L n sc (.Compare a ops bs p) = some m → PT X (.Compare a ops bs p) (tT X.K (W F G k) G m)) :
    PT X e (tT X.K (W F G k) G m) := by
  unfold trT at h
  split at h
  · exact (ih.B g hN hs h).pt
  · obtain ⟨x, h1, rfl⟩ := map_some h
    exact st_not (ih.T g hN hs h1)
  · cases h
  · split at h
    · exact ihC h
    · exact ihC h
    · cases h
  · rename_i n1 n2 n3 n4
    obtain ⟨x, h1, rfl⟩ := map_some h
    refine st_tru (fun whole => ?_) (ih.E g hN hs h1)
    cases e <;> first
      | rfl
      | exact (n1 _ _ _ rfl).elim
      | exact (n3 _ _ _ _ rfl).elim
      | exact (n4 _ _ _ _ rfl).elim
      | (rename_i op a p; cases op <;> first | rfl | exact (n2 _ _ rfl).elim)
theorem snd_I (ih : SndE F G L k N n) {X : Cx} {sc : Scope} {e tg : Expr} {kk : Ik} {l : List E} (g : Good F G L k X) (hN : X.N = N) (hs : X.env.scope = sc) (h : trI N L (n + 1) sc e = some (kk, l)) : PI X tg e (iM X.K (W F G k) G kk l) := by
  have gl : ∀ {x : Str}, isGl sc x = true → Gl X x := fun {x} z => by
    have z := of_decide_eq_true z
    unfold Gl PySem.Env.kindOf
    rw [hs]; exact z
  have val : ∀ {e : Expr}, (trE N L n sc e).map (fun x => (Ik.val, [x])) = some (kk, l) → PI X tg e (iM X.K (W F G k) G kk l) := fun {e} h => by
    obtain ⟨x, h1, h2⟩ := map_some h
    cases h2
    exact si_val (ih.E g hN hs h1)
  unfold trI at h
  split at h
  · split at h
    · rename_i f _ a _ e
      subst e
      split at h
      · rename_i hg
        obtain ⟨x, h1, h2⟩ := map_some h
        cases h2
        obtain ⟨p1, p2, p3⟩ := ih.Es g hN hs h1
        exact si_rng1 g (gl hg) p1 p2 (p3 a (List.mem_cons_self ..))
      · cases h
    · exact val h
  · split at h
    · rename_i f _ a b _ e
      subst e
      split at h
      · rename_i hg
        obtain ⟨x, h1, h2⟩ := map_some h
        cases h2
        obtain ⟨p1, p2, p3⟩ := ih.Es g hN hs h1
        exact si_rng2 g (gl hg) p1 p2 (p3 a (List.mem_cons_self ..)) (p3 b (List.mem_cons_of_mem _ (List.mem_cons_self ..)))
      · cases h
    · exact val h
  · cases h
  · exact val h
theorem tr_noset {sc : Scope} {e : Expr} {kl : Ik × List E} (h : trI N L n sc e = some kl) (env : PySem.Env) : ∀ x, foldedSetIterable e env x = pure x := by
  cases n with
  | zero => unfold trI at h; cases h
  | succ n =>
    intro x
    unfold trI at h
    cases e <;> first | rfl | cases h
end
end Mp

namespace Mp
open PySem L2 PySem.Spec PyProof.Rows
section
variable {F : Str → Option Fn} {G : Str → Option Str} {L : List Str} {k : Nat} {N : List Str} {n : Nat}
theorem lm2 {o p : CmpOp} {b c : Expr} (h : behindInMarks p c = false) : lastMarks [o, p] [b, c] = false := h
/-- a comparison as a test -/
theorem snd_cmp (ih : SndE F G L k N n) {X : Cx} {sc : Scope} {a : Expr} {ops : List CmpOp} {bs : List Expr} {p : Pos} {m : E} (g : Good F G L k X) (hN : X.N = N) (hs : X.env.scope = sc) (h : trE N L (n + 1) sc (.Compare a ops bs p) = some m) :
    PT X (.Compare a ops bs p) (tT X.K (W F G k) G m) ∧ PE X (.Compare a ops bs p) (tE X.K (W F G k) G m) := by
  match ops, bs, h with
  | [], _, h => unfold trE at h; cases h
  | [o], [], h => unfold trE at h; cases h
  | [o], _ :: _ :: _, h => unfold trE at h; cases h
  | [o, q], [], h => unfold trE at h; cases h
  | [o, q], [_], h => unfold trE at h; cases h
  | [o, q], _ :: _ :: _ :: _, h => unfold trE at h; cases h
  | _ :: _ :: _ :: _, _, h => unfold trE at h; cases h
  | [o], [b], h =>
    unfold trE at h
    simp only at h
    split at h
    · rename_i x y h1 h2 h3
      cases h
      exact ⟨st_cmp g.un h1 (ih.E g hN hs h2) (ih.E g hN hs h3), se_cmp g.un h1 (ih.E g hN hs h2) (ih.E g hN hs h3)⟩
    · cases h
  | [o, q], [b, c], h =>
    unfold trE at h
    simp only at h
    split at h
    · rename_i x y z h1 h2 h3 h4
      cases h
      exact ⟨st_cmp2 g.un (lm2 h1) (ih.E g hN hs h2) (ih.E g hN hs h3) (ih.E g hN hs h4), se_cmp2 g.un (lm2 h1) (ih.E g hN hs h2) (ih.E g hN hs h3) (ih.E g hN hs h4)⟩
    · cases h
theorem snd_O (ih : SndE F G L k N n) {X : Cx} {sc : Scope} {o : Option Expr} {l : List E} (g : Good F G L k X) (hN : X.N = N) (hs : X.env.scope = sc) (h : trO N L (n + 1) sc o = some l) : PO X o (tO X.K (W F G k) G l) := by
  unfold trO at h
  cases o with
  | none => cases h; exact so_none
  | some e => obtain ⟨x, h1, rfl⟩ := map_some h; exact so_some (ih.E g hN hs h1)
theorem snd_C (ih : SndE F G L k N n) {X : Cx} {sc : Scope} {ifs : List Expr} {c : E} (g : Good F G L k X) (hN : X.N = N) (hs : X.env.scope = sc) (h : trC N L (n + 1) sc ifs = some c) : PTs X ifs (tT X.K (W F G k) G c) := by
  unfold trC at h
  split at h
  · cases h; exact Pts.nil
  · exact pts_one (ih.T g hN hs h)
  · cases h
theorem gl_at {X : Cx} {sc : Scope} (hs : X.env.scope = sc) {x : Str} (h : sc.names.lookup x = some .globalImplicit) : Gl X x := by
  unfold Gl PySem.Env.kindOf; rw [hs]; exact h
/-- a list comprehension, its parts -/
theorem snd_lc (ih : SndE F G L k N n) {X : Cx} {sc : Scope} {elt tg it : Expr} {ifs : List Expr} {scope : Scope} {pos : Pos} {m : E} (g : Good F G L k X) (hN : X.N = N) (hs : X.env.scope = sc)
    (h : trE N L (n + 1) sc (.ListComp elt [⟨tg, it, ifs, 0⟩] scope pos) = some m) : ∃ (own : List (Str × Nat)) (t : Tg) (kk : Ik) (l : List E) (c x : E), m = .lc (own.map (·.2)) t kk l c x ∧ BlkOk X.N X.env.scope scope own ∧ (∀ i ∈ t.slots, i ∈ own.map (·.2)) ∧
      PI X tg it (iM X.K (W F G k) G kk l) ∧ (∀ x, foldedSetIterable it X.env x = pure x) ∧
      ∀ (s : Shared) (H : Hp) (C : Addr) (cl : List (Str × Addr)) (fp : List Addr), PG (X.blk s H scope (compEnvC scope cl C X.env) fp) tg (gOf X.K t) ∧ PTs (X.blk s H scope (compEnvC scope cl C X.env) fp) ifs (tT X.K (W F G k) G c) ∧
        PE (X.blk s H scope (compEnvC scope cl C X.env) fp) elt (tE X.K (W F G k) G x) := by
  unfold trE at h
  simp only at h
  split at h
  · rename_i t kk l c x h1 h2 h3 h4 h5
    split at h
    · rename_i hsl
      cases h
      refine ⟨ownOf N scope, t, kk, l, c, x, rfl, blkOk_by (by rw [hN, hs]; exact h1), fun i hi => ?_, ih.I g hN hs h3, tr_noset h3 _, fun s H C cl fp => ?_⟩
      · exact of_decide_eq_true (List.all_eq_true.mp hsl i hi)
      · have gb := g.blk s H scope (compEnvC scope cl C X.env) fp
        have sb : (X.blk s H scope (compEnvC scope cl C X.env) fp).env.scope = relS scope sc := by rw [← hs]; rfl
        refine ⟨sg_of (X := X.blk s H scope (compEnvC scope cl C X.env) fp) hN (hN ▸ g.nd) g.calm (fun y hy => ?_) h2, ih.C gb hN sb h4, ih.E gb hN sb h5⟩
        unfold L2.Loc
        rw [sb]
        rcases hy with e | e
        · have z : (relS scope sc).names.lookup y = some .local := lookup_relS_keep (by decide) e
          exact ⟨.inl z, .inr z⟩
        · have z : (relS scope sc).names.lookup y = some .cell := lookup_relS_keep (by decide) e
          exact ⟨.inr z, .inl (by show (scope.names.lookup y == some .cell) = true; rw [e]; rfl)⟩
    · cases h
  · cases h
theorem nostar_of {sc : Scope} {e : Expr} {m : E} (h : trE N L n sc e = some m) : ∀ u p, e ≠ .Starred u p := fun u p z => by
  subst z
  cases n with
  | zero => unfold trE at h; cases h
  | succ n => unfold trE at h; cases h
theorem isGl_of {sc : Scope} {x : Str} (h : isGl sc x = true) : sc.names.lookup x = some .globalImplicit := of_decide_eq_true h
/-- a call of a name -/
theorem snd_call (ih : SndE F G L k N n) {X : Cx} {sc : Scope} {f : Str} {p pos : Pos} {es : List Expr} {m : E} (g : Good F G L k X) (hN : X.N = N) (hs : X.env.scope = sc) (h : trE N L (n + 1) sc (.Call (.Name f p) es [] pos) = some m) :
    PE X (.Call (.Name f p) es [] pos) (tE X.K (W F G k) G m) := by
  unfold trE at h
  simp only at h
  split at h
  · cases h
  · rename_i hn
    rw [not_or, not_or] at hn
    have hg : Gl X f := gl_at hs (isGl_of (by simpa using hn.1))
    have hd : (f == ("__debug__" : Str)) = false := beq_eq_false_iff_ne.mpr hn.2.1
    split at h
    · rename_i hf
      subst hf
      split at h
      · rename_i a t q
        split at h
        · rename_i x ty h1 h2 h3
          cases h
          exact se_isi g hg (gl_at hs (isGl_of h1)) h3 (nostar_of h2) (ih.E g hN hs h2)
        · cases h
      · cases h
    · split at h
      · rename_i b hb
        have e := bt_of hb
        subst e
        split at h
        · cases h
        · rename_i e1 r
          obtain ⟨l, h1, rfl⟩ := map_some h
          obtain ⟨a1, a2, a3⟩ := ih.Es g hN hs h1
          exact se_blt g hg (a3 e1 (List.mem_cons_self ..)) (fun y hy => a3 y (List.mem_cons_of_mem _ hy)) a1
      · split at h
        · cases h
        · rename_i hL
          rw [not_or] at hL
          obtain ⟨l, h1, rfl⟩ := map_some h
          obtain ⟨a1, a2, a3⟩ := ih.Es g hN hs h1
          exact se_call g (Classical.not_not.mp hL.2) hg hd a3 a2 a1
theorem snd_E (ih : SndE F G L k N n) {X : Cx} {sc : Scope} {e : Expr} {m : E} (g : Good F G L k X) (hN : X.N = N) (hs : X.env.scope = sc) (h : trE N L (n + 1) sc e = some m) : PE X e (tE X.K (W F G k) G m) := by
  have h0 := h
  unfold trE at h
  split at h
  · cases h; exact se_non
  · cases h; exact se_bl
  · cases h; exact se_int
  · cases h; exact se_str
  · rename_i x p
    split at h
    · rename_i i hi
      cases h
      obtain ⟨v1, v2, v3, v4⟩ := vis_of hi
      exact se_var (by rw [hN]; exact v2) (by rw [hs]; exact v1) v3 v4
    · rename_i hi
      cases h
      obtain ⟨v1, v2⟩ := gl_of hi
      exact se_glob (gl_at hs v1) (fun z hz => g.txt x z hz) v2
    · cases h
  · split at h
    · rename_i hl
      obtain ⟨l, h1, rfl⟩ := map_some h
      obtain ⟨a1, a2, _⟩ := ih.Es g hN hs h1
      exact se_tup (by rw [a2]; exact hl) a1
    · cases h
  · split at h
    · rename_i hl
      obtain ⟨l, h1, rfl⟩ := map_some h
      obtain ⟨a1, a2, _⟩ := ih.Es g hN hs h1
      exact se_lst (by rw [a2]; exact hl) a1
    · cases h
  · cases h; exact se_dnew
  · split at h
    · rename_i x y h1 h2 h3
      cases h
      exact se_bin h1 (ih.E g hN hs h2) (ih.E g hN hs h3)
    · cases h
  · obtain ⟨x, h1, rfl⟩ := map_some h
    exact se_neg (ih.E g hN hs h1)
  · obtain ⟨x, h1, rfl⟩ := map_some h
    exact se_notV (ih.E g hN hs h1)
  · exact ih.V g hN hs h
  · exact (snd_cmp ih g hN hs h0).2
  · exact (snd_cmp ih g hN hs h0).2
  · split at h
    · rename_i x y z h1 h2 h3
      cases h
      exact se_ifE (ih.T g hN hs h1) (ih.E g hN hs h2) (ih.E g hN hs h3)
    · cases h
  · exact snd_call ih g hN hs h0
  · rename_i o mm ap es cp
    split at h
    · rename_i mt x l h1 h2 h3 h4
      split at h
      · rename_i h10
        cases h
        obtain ⟨e, hm⟩ := mt_of h2
        subst e
        obtain ⟨a1, a2, a3⟩ := ih.Es g hN hs h4
        rw [Bool.and_eq_true] at h1
        exact se_mth hm (fun q1 q2 q3 z => by subst z; cases h1.2) h1.1 a3 h10 a2 (ih.E g hN hs h3) a1
      · cases h
    · cases h
  · split at h
    · rename_i x l hh h1 h2 h3
      cases h
      exact se_sl (ih.E g hN hs h1) (ih.O g hN hs h2) (ih.O g hN hs h3)
    · cases h
  · split at h
    · rename_i x y h1 h2 h3
      cases h
      exact se_ix h1 (ih.E g hN hs h2) (ih.E g hN hs h3)
    · cases h
  · obtain ⟨own, t, kk, l, c, x, rfl, ok, ho, hi, hset, hb⟩ := snd_lc ih g hN hs h0
    exact PE.imp (pe_lc g.calm g.nd hi ok (fun s H C cl fp => (hb s H C cl fp).1) (fun s H C cl fp => (hb s H C cl fp).2.1) (fun s H C cl fp => (hb s H C cl fp).2.2) hset) fun τ H Q hq => lc_read ho hq
  · cases h
theorem snd_all : ∀ n, SndE F G L k N n ∧ ∀ {X : Cx} {sc : Scope} {a : Expr} {ops : List CmpOp} {bs : List Expr} {p : Pos} {m : E}, Good F G L k X → X.N = N → X.env.scope = sc → trE N L n sc (.Compare a ops bs p) = some m → PT X (.Compare a ops bs p) (tT X.K (W F G k) G m)
  | 0 => ⟨snd0, fun _ _ _ h => by unfold trE at h; cases h⟩
  | n + 1 => by
    obtain ⟨ih, ihC⟩ := snd_all n
    exact ⟨⟨fun g hN hs h => snd_E ih g hN hs h, fun g hN hs h => snd_V ih g hN hs h, fun g hN hs h => snd_T ih g hN hs h (fun h => ihC g hN hs h), fun g hN hs h => snd_B ih g hN hs h, fun g hN hs h => snd_Es ih g hN hs h, fun g hN hs h => snd_O ih g hN hs h,
      fun g hN hs h => snd_C ih g hN hs h, fun g hN hs h => snd_I ih g hN hs h, fun h => nostar_of h⟩, fun g hN hs h => (snd_cmp ih g hN hs h).1⟩
end
end Mp

namespace Mp
open PySem L2 PySem.Spec PyProof.Rows

/-! ## statements -/
structure EnOk (K : PySem.W.Frag) (S : Sto) (H : Hp) (N : En) (Dn : Ends) : Prop where
  nx : ∀ σ S' τ H', Fr S H S' H' → RS K S' H' → RSl K H' σ τ → N.nx σ S' → Dn.nx τ H'
  rt : Kp K S H N.rt Dn.rt
  bk : ∀ σ S' τ H', Fr S H S' H' → RS K S' H' → RSl K H' σ τ → N.bk σ S' → Dn.bk τ H'
  ct : ∀ σ S' τ H', Fr S H S' H' → RS K S' H' → RSl K H' σ τ → N.ct σ S' → Dn.ct τ H'
theorem EnOk.on {K : PySem.W.Frag} {S S1 : Sto} {H H1 : Hp} {N : En} {Dn : Ends} (e : EnOk K S H N Dn) (f : Fr S H S1 H1) : EnOk K S1 H1 N Dn :=
  ⟨fun σ S' τ H' g => e.nx σ S' τ H' (f.trans g), e.rt.on f, fun σ S' τ H' g => e.bk σ S' τ H' (f.trans g), fun σ S' τ H' g => e.ct σ S' τ H' (f.trans g)⟩
def tS (K : PySem.W.Frag) (Wf : Callee) (G : Str → Option Str) (s : Sm) : TS := fun Dn τ H => ∃ (σ : Sl) (S : Sto) (N : En), RSl K H σ τ ∧ RS K S H ∧ N.ex = X0 ∧ wpS Wf G s N σ S ∧ EnOk K S H N Dn
def tB (K : PySem.W.Frag) (Wf : Callee) (G : Str → Option Str) (b : List Sm) : TS := fun Dn τ H => ∃ (σ : Sl) (S : Sto) (N : En), RSl K H σ τ ∧ RS K S H ∧ N.ex = X0 ∧ wpB Wf G b N σ S ∧ EnOk K S H N Dn
theorem PS.imp {X : Cx} {s : Stmt} {t t' : TS} (h : PS X s t) (f : ∀ D σ H, t' D σ H → t D σ H) : PS X s t' := ⟨fun pins st σ H D I q => h.run pins st σ H D I (f D σ H q)⟩
theorem PSs.imp {X : Cx} {s : List Stmt} {t t' : TS} (h : PSs X s t) (f : ∀ D σ H, t' D σ H → t D σ H) : PSs X s t' := ⟨fun pins st σ H D I q => h.run pins st σ H D I (f D σ H q)⟩
section
variable {X : Cx} {Wf : Callee} {G : Str → Option Str} {a b c e o i tg : Expr} {x y z : E} {pos : Pos}
theorem sb_nil : PSs X [] (tB X.K Wf G []) := PSs.imp pss_nil fun D τ H ⟨σ, S, N, rs, r, ex, w, k⟩ => by
  simp only [wpB] at w
  exact k.nx _ _ _ _ .refl r rs w
theorem sb_cons {s : Stmt} {l : List Stmt} {m : Sm} {ms : List Sm} (h1 : PS X s (tS X.K Wf G m)) (h2 : PSs X l (tB X.K Wf G ms)) : PSs X (s :: l) (tB X.K Wf G (m :: ms)) :=
  PSs.imp (pss_cons h1 h2) fun D τ H ⟨σ, S, N, rs, r, ex, w, k⟩ => by
    simp only [wpB] at w
    exact ⟨σ, S, { N with nx := wpB Wf G ms N }, rs, r, ex, w, ⟨fun σ1 S1 τ1 H1 f1 r1 rs1 w1 => ⟨σ1, S1, N, rs1, r1, ex, w1, k.on f1⟩, k.rt, k.bk, k.ct⟩⟩
theorem asg_read {te : TE} {t : Tg} {m : E} (hte : ∀ τ H Q, tE X.K Wf G m τ H Q → te τ H Q) {D : Ends} {τ : L2.St} {H : Hp} (h : tS X.K Wf G (.asg t m) D τ H) : tAsg te (gOf X.K t) D τ H := by
  obtain ⟨σ, S, N, rs, r, ex, w, k⟩ := h
  simp only [wpS] at w
  rw [ex] at w
  exact hte _ _ _ (tE.mk rs r w fun d S1 v H1 f1 r1 q1 w1 => gOf_ok q1 (rs.stay (f1.stay r)) w1 fun σ' τ' w2 rs2 _ => k.nx _ _ _ _ f1 r1 rs2 w2)
theorem noswap (h : isLc e = false) (t : Option Expr) (l : Nat) (env : PySem.Env) : swapsWith e t l env = pure false := by
  cases e <;> first | rfl | cases h
theorem ss_asg {t : Tg} (he : PE X e (tE X.K Wf G x)) (hg : PG X tg (gOf X.K t)) (hl : isLc e = false) (hw : swappedStores [tg] e X.env = pure none) (hne : ∀ u p, tg ≠ .Starred u p) : PS X (.Assign [tg] e pos) (tS X.K Wf G (.asg t x)) :=
  PS.imp (ps_asg he hg (noswap hl _ _ _) hw (by cases tg <;> first | rfl | exact absurd rfl (hne _ _))) fun D τ H h => asg_read (fun _ _ _ z => z) h
theorem ss_set (he : PE X e (tE X.K Wf G x)) (ho : PE X o (tE X.K Wf G y)) (hi : PE X i (tE X.K Wf G z)) (hl : isLc e = false) (hp : plainIx i = true) {p : Pos} : PS X (.Assign [.Subscript o i p] e pos) (tS X.K Wf G (.set y z x)) := by
  have ha : ∀ v, assign (.Subscript o i p) X.env v = (do
      let ov ← holding [v] (eval o X.env)
      let iv ← holding [v, ov] (eval i X.env)
      standAt p
      holding [v, ov, iv] (setItem ov iv v)
      release [v, ov, iv] []) := fun v => by
    cases i <;> first | rfl | cases hp
  refine PS.imp (ps_asg he (pg_sub ho hi set_list ha) (show swapsWith e (some (.Subscript o i p)) pos.line X.env = pure false from noswap hl _ _ _) (by cases e <;> rfl) rfl) fun D τ H ⟨σ, S, N, rs, r, ex, w, k⟩ => ?_
  simp only [wpS] at w
  rw [ex] at w
  refine tE.mk rs r w fun d S1 v H1 f1 r1 q1 w1 => tE.mk (rs.stay (f1.stay r)) r1 w1 fun d2 S2 u H2 f2 r2 q2 w2 => tE.mk (rs.stay ((f1.trans f2).stay r)) r2 w2 fun d3 S3 t H3 f3 r3 q3 w3 => ?_
  cases q2 with
  | ref ad =>
    unfold pSet at w3
    dsimp only at w3
    split at w3
    · rename_i us e3
      obtain ⟨vs, hz, q⟩ := r3.lst e3
      obtain ⟨kk, j, rfl, hj, w3⟩ := w3
      cases q3
      have q1' := q1.stay ((f2.trans f3).stay r1)
      obtain ⟨r4, f4⟩ := set_list_ok r3 e3 (q.set q1' j)
      exact ⟨_, vs, kk, j, rfl, rfl, hz, by rw [← q.length]; exact hj, k.nx _ _ _ _ (((f1.trans f2).trans f3).trans f4) r4 (rs.stay ((((f1.trans f2).trans f3).trans f4).stay r)) w3⟩
    · exact w3.elim
  | _ => exact w3.elim
def rAug (K : PySem.W.Frag) (op : Operator) : TIp := match op with
  | .Add => fun x y H Q => (∃ i j, x = .int i ∧ y = .int j ∧ Q (.int (i + j)) H)
  | .Sub => fun x y H Q => (∃ i j, x = .int i ∧ y = .int j ∧ Q (.int (i - j)) H)
  | _ => fun _ _ _ _ => False
theorem ip_aug (op : Operator) : PIp X op (rAug X.K op) := by
  cases op <;> first | exact ip_add | exact ip_sub | exact fun _ _ _ _ _ _ _ _ _ _ _ _ h => h.elim
theorem ss_ex (he : PE X e (tE X.K Wf G x)) (hl : isLc e = false) : PS X (.Expr e pos) (tS X.K Wf G (.ex x)) :=
  PS.imp (ps_expr he (noswap hl _ _ _)) fun D τ H ⟨σ, S, N, rs, r, ex, w, k⟩ => by
    simp only [wpS] at w
    rw [ex] at w
    exact tE.mk rs r w fun d S1 v H1 f1 r1 q1 w1 => k.nx _ _ _ _ f1 r1 (rs.stay (f1.stay r)) w1
theorem ss_ret (he : PE X e (tE X.K Wf G x)) : PS X (.Return (some e) pos) (tS X.K Wf G (.ret x)) :=
  PS.imp (ps_ret he) fun D τ H ⟨σ, S, N, rs, r, ex, w, k⟩ => by
    simp only [wpS] at w
    rw [ex] at w
    exact ⟨σ, S, _, rs, r, w, k.rt⟩
theorem ss_retN : PS X (.Return none pos) (tS X.K Wf G .retN) :=
  PS.imp ps_retN fun D τ H ⟨σ, S, N, rs, r, ex, w, k⟩ => by
    simp only [wpS] at w
    exact k.rt.at r .non w
theorem ss_ite {p q : List Stmt} {ms ns : List Sm} (hc : PT X c (tT X.K Wf G x)) (ha : PSs X p (tB X.K Wf G ms)) (hb : PSs X q (tB X.K Wf G ns)) : PS X (.If c p q pos) (tS X.K Wf G (.ite x ms ns)) :=
  PS.imp (ps_if hc ha hb) fun D τ H ⟨σ, S, N, rs, r, ex, w, k⟩ => by
    simp only [wpS] at w
    rw [ex] at w
    refine ⟨σ, S, _, rs, r, w, fun b S1 H1 f1 r1 w1 => ?_⟩
    cases b with
    | true => rw [if_pos rfl] at w1 ⊢; exact ⟨σ, S1, N, rs.stay (f1.stay r), r1, ex, w1, k.on f1⟩
    | false => rw [if_neg Bool.false_ne_true] at w1 ⊢; exact ⟨σ, S1, N, rs.stay (f1.stay r), r1, ex, w1, k.on f1⟩
theorem ss_brk : PS X (.Break pos) (tS X.K Wf G .brk) := PS.imp ps_break fun D τ H ⟨σ, S, N, rs, r, ex, w, k⟩ => by
  simp only [wpS] at w
  exact k.bk _ _ _ _ .refl r rs w
theorem ss_cnt : PS X (.Continue pos) (tS X.K Wf G .cnt) := PS.imp ps_continue fun D τ H ⟨σ, S, N, rs, r, ex, w, k⟩ => by
  simp only [wpS] at w
  exact k.ct _ _ _ _ .refl r rs w
theorem ss_pass : PS X (.Pass pos) (tS X.K Wf G .pass) := PS.imp ps_pass fun D τ H ⟨σ, S, N, rs, r, ex, w, k⟩ => by
  simp only [wpS] at w
  exact k.nx _ _ _ _ .refl r rs w
theorem ss_raise {s : Stmt} {u : Str} {es : List E} : PS X s (tS X.K Wf G (.raise u es)) := PS.imp ps_never fun D τ H ⟨σ, S, N, rs, r, ex, w, k⟩ => by
  simp only [wpS] at w
  obtain ⟨ds, _, w⟩ := w
  rw [ex] at w
  exact w
theorem ss_for {it : Expr} {body : List Stmt} {t : Tg} {kk : Ik} {its : List E} {ms : List Sm} (hp : PassesOwn (model X.prog X.w) X.A X.env X.xe) (hc : X.calm = true) (hi : PI X tg it (iM X.K Wf G kk its)) (hg : PG X tg (gOf X.K t)) (hb : PSs X body (tB X.K Wf G ms))
    (hs : ∀ x, foldedSetIterable it X.env x = pure x) : PS X (.For tg it body [] pos) (tS X.K Wf G (.loop t kk its ms)) := by
  refine PS.imp (ps_for hp hc hi hg hb hs) fun D τ0 H0 ⟨σ0, S0, N, rs0, r0, ex, w, k⟩ => ?_
  simp only [wpS] at w
  rw [ex] at w
  refine ⟨σ0, S0, _, rs0, r0, w, fun u chk S1 H1 J f1 r1 io w1 => ?_⟩
  refine ⟨fun i m τ H => m = u.length - i ∧ i ≤ u.length ∧ ∃ (σ : Sl) (S : Sto), Fr S1 H1 S H ∧ RS X.K S H ∧ RSl X.K H σ τ ∧ wpFor chk (fun x N' σ' S' => wpTg t x σ' fun σ2 => wpB Wf G ms N' σ2 S') (u.drop i) N σ S,
    ⟨u.length, by simp, Nat.zero_le _, σ0, S1, .refl, r1, rs0.stay (f1.stay r0), by simpa using w1⟩, ?_⟩
  rintro i m τ H ⟨rfl, hi', σ, S, f2, r2, rs2, w2⟩
  by_cases hlt : i < u.length
  · rw [List.drop_eq_getElem_cons hlt] at w2
    unfold wpFor at w2
    obtain ⟨ck, w2⟩ := w2
    refine .inr ⟨io.go i S H hlt f2 r2 ck, fun τ' H' => i + 1 ≤ u.length ∧ ∃ (σ : Sl) (S : Sto), Fr S1 H1 S H' ∧ RS X.K S H' ∧ RSl X.K H' σ τ' ∧ wpFor chk (fun x N' σ' S' => wpTg t x σ' fun σ2 => wpB Wf G ms N' σ2 S') (u.drop (i + 1)) N σ S,
      fun τ' H' z => ⟨u.length - (i + 1), by omega, rfl, z.1, z.2⟩, fun xv H3 y => ?_⟩
    obtain ⟨rd, r3, f3⟩ := io.yld i u[i] S H xv H3 (List.getElem?_eq_getElem hlt) f2 r2 ck y
    refine gOf_ok rd (rs2.stay (f3.stay r2)) w2 fun σ4 τ4 w4 rs4 _ => ?_
    have fa := f2.trans f3
    exact ⟨σ4, S, { N with nx := wpFor chk (fun x N' σ' S' => wpTg t x σ' fun σ2 => wpB Wf G ms N' σ2 S') (u.drop (i + 1)) N, ct := wpFor chk (fun x N' σ' S' => wpTg t x σ' fun σ2 => wpB Wf G ms N' σ2 S') (u.drop (i + 1)) N, bk := N.nx }, rs4, r3, ex, w4, ⟨fun σ5 S5 τ5 H5 f5 r5 rs5 w5 => ⟨hlt, σ5, S5, fa.trans f5, r5, rs5, w5⟩, k.rt.on (f1.trans fa), fun σ5 S5 τ5 H5 f5 => k.nx σ5 S5 τ5 H5 ((f1.trans fa).trans f5), fun σ5 S5 τ5 H5 f5 r5 rs5 w5 => ⟨hlt, σ5, S5, fa.trans f5, r5, rs5, w5⟩⟩⟩
  · have e : i = u.length := by omega
    subst e
    rw [List.drop_eq_nil_of_le (Nat.le_refl _)] at w2
    unfold wpFor at w2
    exact .inl ⟨io.stop _ S H (Nat.le_refl _) f2 r2 w2.1, k.nx _ _ _ _ (f1.trans f2) r2 rs2 w2.2⟩
theorem ss_whl {body : List Stmt} {ms : List Sm} (hp : PassesOwn (model X.prog X.w) X.A X.env X.xe) (hc : PT X c (tT X.K Wf G x)) (hb : PSs X body (tB X.K Wf G ms)) : PS X (.While c body [] pos) (tS X.K Wf G (.whl x ms)) := by
  refine PS.imp (ps_while hp hc hb) fun D τ0 H0 ⟨σ0, S0, N, rs0, r0, ex, w, k⟩ => ?_
  simp only [wpS] at w
  rw [ex] at w
  obtain ⟨I, ⟨m0, w0⟩, turn⟩ := w
  refine ⟨fun m τ H => ∃ (σ : Sl) (S : Sto), Fr S0 H0 S H ∧ RS X.K S H ∧ RSl X.K H σ τ ∧ I m σ S, ⟨m0, σ0, S0, .refl, r0, rs0, w0⟩, ?_⟩
  rintro m τ H ⟨σ, S, f1, r1, rs1, w1⟩
  refine ⟨σ, S, _, rs1, r1, turn m σ S w1, fun b S2 H2 f2 r2 w2 => ?_⟩
  have rs2 := rs1.stay (f2.stay r1)
  cases b with
  | false =>
    dsimp only at w2 ⊢
    rw [if_neg Bool.false_ne_true] at w2 ⊢
    exact k.nx _ _ _ _ (f1.trans f2) r2 rs2 w2
  | true =>
    dsimp only at w2 ⊢
    rw [if_pos rfl] at w2 ⊢
    refine ⟨fun τ' H' => ∃ m', m' < m ∧ ∃ (σ : Sl) (S : Sto), Fr S0 H0 S H' ∧ RS X.K S H' ∧ RSl X.K H' σ τ' ∧ I m' σ S, fun τ' H' z => z, σ, S2, { N with nx := fun σ' S' => ∃ m', m' < m ∧ I m' σ' S', ct := fun σ' S' => ∃ m', m' < m ∧ I m' σ' S', bk := N.nx }, rs2, r2, ex, w2, ?_⟩
    have fa := f1.trans f2
    exact ⟨fun σ5 S5 τ5 H5 f5 r5 rs5 ⟨m', hm, w5⟩ => ⟨m', hm, σ5, S5, fa.trans f5, r5, rs5, w5⟩, k.rt.on fa, fun σ5 S5 τ5 H5 f5 => k.nx σ5 S5 τ5 H5 (fa.trans f5), fun σ5 S5 τ5 H5 f5 r5 rs5 ⟨m', hm, w5⟩ => ⟨m', hm, σ5, S5, fa.trans f5, r5, rs5, w5⟩⟩
end
end Mp

namespace Mp
open PySem L2 PySem.Spec PyProof.Rows

/-! ## what is translated means what the language says: statements, defs, the program -/
structure GoodS (F : Str → Option Fn) (G : Str → Option Str) (L : List Str) (k : Nat) (X : Cx) : Prop extends Good F G L k X where
  all : X.fn = fun _ => true
  pass : PassesOwn (model X.prog X.w) X.A X.env X.xe
  kind : X.env.scope.kind = .function
section
variable {F : Str → Option Fn} {G : Str → Option Str} {L : List Str} {k : Nat} {N : List Str} {n : Nat}
theorem GoodS.st {X : Cx} {sc : Scope} (g : GoodS F G L k X) (hs : X.env.scope = sc) : Stores X sc := fun x h => by
  rw [hs]
  exact ⟨h, .inl (by rw [g.all])⟩
theorem lc_shape {sc : Scope} {elt : Expr} {gs : List Comprehension} {scope : Scope} {p : Pos} {x : E} (h : trE N L n sc (.ListComp elt gs scope p) = some x) : ∃ tg it ifs, gs = [⟨tg, it, ifs, 0⟩] := by
  cases n with
  | zero => unfold trE at h; cases h
  | succ n =>
    unfold trE at h
    split at h <;> first
      | (rename_i e; cases e; done)
      | (rename_i e; cases e; exact ⟨_, _, _, rfl⟩)
      | (cases h; done)
/-- a comprehension stored under a name -/
theorem ss_lcN {X : Cx} {sc : Scope} {y : Str} {py p sp : Pos} {elt : Expr} {gs : List Comprehension} {scope : Scope} {i : Nat} {x : E} (g : GoodS F G L k X) (hN : X.N = N) (hs : X.env.scope = sc)
    (h1 : storeOf N sc (.Name y py) = some i) (h2 : trE N L n sc (.ListComp elt gs scope p) = some x)
    (hc : sc.names.lookup y = some .cell ∨ (scope.names.any fun y' => y'.1 == y && (y'.2 == .local || y'.2 == .cell)) = true ∨
          (sc.names.lookup y = some .local ∧ (py.line == p.line) = true ∧ (p.line == sp.line) = true ∧ (scope.names.any fun y' => y'.1 == y && (y'.2 == .local || y'.2 == .cell)) = false)) :
    PS X (.Assign [.Name y py] (.ListComp elt gs scope p) sp) (tS X.K (W F G k) G (.asg (.one i) x)) := by
  obtain ⟨y', p', e', hl, hi⟩ := storeOf_ok h1
  cases e'
  have hN' : X.N[i]? = some y := by rw [hN]; exact hi
  have hl' : L2.Loc X.env.scope y := by rw [hs]; exact hl
  have he : PE X (.ListComp elt gs scope p) (tE X.K (W F G k) G x) := (snd_all n).1.E g.toGood hN hs h2
  have off : swapsWith (.ListComp elt gs scope p) (some (.Name y py)) sp.line X.env = pure false → PS X (.Assign [.Name y py] (.ListComp elt gs scope p) sp) (tS X.K (W F G k) G (.asg (.one i) x)) := fun z =>
    PS.imp (ps_set g.nd hN' hl' he z (.inl (by rw [g.all]))) fun D τ H h => asg_read (fun _ _ _ z => z) h
  rcases hc with hc | hc | ⟨c1, c2, c3, c4⟩
  · refine off ?_
    have z : X.env.kindOf y = some .cell := by unfold PySem.Env.kindOf; rw [hs]; exact hc
    unfold swapsWith
    simp only [z]
    rw [show (some NameKind.cell == some NameKind.local) = false from rfl]
    simp
  · refine off ?_
    unfold swapsWith
    simp only [hc]
    simp
  · -- the comprehension stands alone in the translated clause
    obtain ⟨tg, it, ifs, rfl⟩ := lc_shape h2
    cases n with
    | zero => unfold trE at h2; cases h2
    | succ n =>
      obtain ⟨own, t, kk, l, c, x', rfl, ok, ho, hi2, hset, hb⟩ := snd_lc (snd_all n).1 g.toGood hN hs h2
      exact PS.imp (ps_setLc g.calm g.nd hN' (by rw [hs]; exact c1) (sw_true g.kind (by rw [hs]; exact c1) c2 c4) hi2 ok (fun s H C cl fp => (hb s H C cl fp).1) (fun s H C cl fp => (hb s H C cl fp).2.1) (fun s H C cl fp => (hb s H C cl fp).2.2) hset)
        fun D τ H h => asg_read (fun _ _ _ z => lc_read ho z) h
structure SndS (F : Str → Option Fn) (G : Str → Option Str) (L : List Str) (k : Nat) (N : List Str) (n : Nat) : Prop where
  S : ∀ {X : Cx} {sc : Scope} {s : Stmt} {m : Sm}, GoodS F G L k X → X.N = N → X.env.scope = sc → trS N L n sc s = some m → PS X s (tS X.K (W F G k) G m)
  B : ∀ {X : Cx} {sc : Scope} {s : List Stmt} {m : List Sm}, GoodS F G L k X → X.N = N → X.env.scope = sc → trB N L n sc s = some m → PSs X s (tB X.K (W F G k) G m)
theorem snd_S (ih : SndS F G L k N n) {X : Cx} {sc : Scope} {s : Stmt} {m : Sm} (g : GoodS F G L k X) (hN : X.N = N) (hs : X.env.scope = sc) (h : trS N L (n + 1) sc s = some m) : PS X s (tS X.K (W F G k) G m) := by
  have ie := (snd_all (F := F) (G := G) (L := L) (k := k) (N := N) n).1
  unfold trS at h
  split at h
  · split at h
    · rename_i i x h1 h2
      split at h
      · rename_i hc
        cases h
        exact ss_lcN g hN hs h1 h2 hc
      · cases h
    · cases h
  · split at h
    · rename_i x y z h1 h2 h3 h4 h5
      cases h
      exact ss_set (ie.E g.toGood hN hs h3) (ie.E g.toGood hN hs h4) (ie.E g.toGood hN hs h5) h1 h2
    · cases h
  · rename_i es kq p e sp
    split at h
    · rename_i t x h1 h2 h3 h4
      cases h
      have hg := sg_of hN (hN ▸ g.nd) g.calm (g.st hs) h3
      refine ss_asg (ie.E g.toGood hN hs h4) hg h2 ?_ (fun _ _ z => nomatch z)
      cases e <;> first | rfl | cases h1
    · cases h
  · rename_i y py e sp hne
    split at h
    · rename_i i x h1 h2 h3
      cases h
      have hg : PG X (.Name y py) (gOf X.K (.one i)) := sg_of hN (hN ▸ g.nd) g.calm (g.st hs) (show trTg N sc (.Name y py) = some (.one i) by show (storeOf N sc (.Name y py)).map Tg.one = _; rw [h2]; rfl)
      exact ss_asg (ie.E g.toGood hN hs h3) hg h1 (by cases e <;> rfl) (fun _ _ z => nomatch z)
    · cases h
  · rename_i y py o e sp
    split at h
    · rename_i i x h1 h2 h3
      cases h
      obtain ⟨y', p', e', hl, hi⟩ := storeOf_ok h2
      cases e'
      refine PS.imp (ps_aug g.nd (by rw [hN]; exact hi) (by rw [hs]; exact hl) (ie.E g.toGood hN hs h3) (ip_aug o) (.inl (by rw [g.all]))) fun D τ H ⟨σ, S, N', rs, r, ex, w, kk⟩ => ?_
      simp only [wpS] at w
      obtain ⟨d, hd, w⟩ := w
      rw [ex] at w
      obtain ⟨v, hv, rv⟩ := rs.2 i d hd
      refine ⟨v, hv, tE.mk rs r w fun d2 S1 u H1 f1 r1 q1 w1 => ?_⟩
      have rv1 := rv.stay (f1.stay r)
      have fin : ∀ z, N'.nx (σ.set i (some (.int z))) S1 → D.nx (τ.set i (some (.int z))) H1 := fun z hz => kk.nx _ _ _ _ f1 r1 ((rs.stay (f1.stay r)).set (.int z) i) hz
      rw [Bool.or_eq_true, decide_eq_true_eq, decide_eq_true_eq] at h1
      rcases h1 with rfl | rfl
      · obtain ⟨a, b, rfl, rfl, w1⟩ := w1
        cases rv1
        cases q1
        exact ⟨a, b, rfl, rfl, fin _ w1⟩
      · obtain ⟨a, b, rfl, rfl, w1⟩ := w1
        cases rv1
        cases q1
        exact ⟨a, b, rfl, rfl, fin _ w1⟩
    · cases h
  · split at h
    · rename_i x h1 h2
      cases h
      exact ss_ex (ie.E g.toGood hN hs h2) h1
    · cases h
  · cases h; exact ss_retN
  · obtain ⟨x, h1, rfl⟩ := map_some h
    exact ss_ret (ie.E g.toGood hN hs h1)
  · split at h
    · rename_i x y z h1 h2 h3
      cases h
      exact ss_ite (ie.T g.toGood hN hs h1) (ih.B g hN hs h2) (ih.B g hN hs h3)
    · cases h
  · split at h
    · rename_i t kk l y h1 h2 h3
      cases h
      exact ss_for g.pass g.calm (ie.I g.toGood hN hs h2) (sg_of hN (hN ▸ g.nd) g.calm (g.st hs) h1) (ih.B g hN hs h3) (tr_noset h2 _)
    · cases h
  · split at h
    · rename_i x y h1 h2
      cases h
      exact ss_whl g.pass (ie.T g.toGood hN hs h1) (ih.B g hN hs h2)
    · cases h
  · cases h; exact ss_brk
  · cases h; exact ss_cnt
  · cases h; exact ss_pass
  · obtain ⟨l, h1, rfl⟩ := map_some h
    exact ss_raise
  · cases h
theorem sndS_all : ∀ n, SndS F G L k N n
  | 0 => ⟨fun {_ _ _ _} _ _ _ h => (by unfold trS at h; cases h), fun {_ _ _ _} _ _ _ h => (by unfold trB at h; cases h)⟩
  | n + 1 => by
    have ih := sndS_all n
    refine ⟨fun g hN hs h => snd_S ih g hN hs h, fun {X sc s m} g hN hs h => ?_⟩
    unfold trB at h
    split at h
    · cases h; exact sb_nil
    · split at h
      · rename_i x y h1 h2
        cases h
        exact sb_cons (ih.S g hN hs h1) (ih.B g hN hs h2)
      · cases h
end
end Mp

namespace Mp
open PySem L2 PySem.Spec PyProof.Rows

/-! ## a def by its body -/
section
variable {P : Program} {w : World} {K : PySem.W.Frag} {mg : Str → Option Value} {base : Heap} {k : Nat}
theorem fnG_of {x : Str} {st : Stmt} {f : Addr} {fd : FuncData} {N ps : List Str} {sp : List V → Hp → VK → Prop} (D : Fun K x x st f fd) (S : FnScope N ps (defScope st)) (len : ∀ vs H Q, sp vs H Q → vs.length = ps.length)
    (body : ∀ (cdv : Value) (A : Around) (outer : List PySem.Env) (s : Shared) (H : Hp) (vs : List V) (Q : VK), Room k (A.deeper (envOfC x (defScope st) s.heap.objs.size f cdv)) → A.guards = some [] → sp vs H Q →
      ∃ t, PSs (cxOf CX0 P w K mg base N x (defScope st) f cdv A outer s H E0).nox (defBody st) t ∧ t { nx := fun _ H' => Q .non H', rt := Q } (start N vs) H) : FnG P w K mg base (k + 1) f fd ps sp := by
  obtain ⟨oc, od, kV, doc, pm, an, cdv, ct, osl, rfl, lk, cd⟩ := D.ex
  refine ⟨len, fun A outer s H args us vs Q room quiet e0 bind rel pre => ?_⟩
  have nv := len _ _ _ pre
  have kin : K.In s.heap := e0.mod.kin.keeps fun b o z => (e0.bs b o z).1
  have limit : s.heap.NoLimit := e0.mod.nolimit.keeps fun b o z => (e0.bs b o z).1
  have kinds : ∀ y ∈ ps.zip us, (defScope st).names.lookup y.1 = some .local ∨ ((defScope st).names.lookup y.1 = some .cell ∧
      ((cellsFrom (s.heap.objs.size + 1) (defScope st).names []).lookup y.1).isSome = true) := by
    rintro ⟨n, v⟩ hy
    exact (S.par n (List.of_mem_zip hy).1).imp id fun q => ⟨q, PySem.W.cellsFrom_some _ _ _ (.inl q)⟩
  refine codeAny_call_function room.depth (kin _ _ lk) rfl S.co S.gen rfl (PySem.W.codeRec_of kin cd) (bind _ _ _ _ ?_)
  refine wpAny_newFunctionEnv_cells S.kind kinds fun env he s1 xi => ?_
  subst he
  obtain ⟨t, ht, hq⟩ := body cdv A outer s H vs Q (room.deeper _) quiet pre
  have inv0 : Inv (cxOf CX0 P w K mg base N x (defScope st) f cdv A outer s H E0) [] (start N vs) H s1 := inv_start S room.hd e0 nv rel xi
  refine ⟨limit.keeps xi.toInCall.keep, codeAny_func (wpAny_mono (ht.nox.run [] s1 (start N vs) H _ inv0 hq) (fun fl s' z => ?_) fun e s' z => z)⟩
  match fl, z with
  | .ret u, ⟨v, σ', H', J, rv, q⟩ => exact ⟨v, H', J.os, J.bare, J.base, J.hok, rv, q⟩
  | .next, ⟨σ', H', J, q⟩ => exact ⟨V.non, H', J.os, J.bare, J.base, J.hok, rfl, q⟩
  | .brk, ⟨_, _, _, q⟩ => exact q.elim
  | .cont, ⟨_, _, _, q⟩ => exact q.elim
end
/-! ## the program -/
/-- a def of the program's top, and its place in the table -/
structure DefOk (K : PySem.W.Frag) (mg : Str → Option Value) (F : Str → Option Fn) (L : List Str) (f : Str) (st : Stmt) (fn : Fn) (N : List Str) (n : Nat) (a : Addr) (fd : FuncData) : Prop where
  tab : F f = some fn
  fun_ : Fun K f f st a fd
  mg_ : mg f = some (.ref a)
  sc : FnScope N (N.take fn.ps) (defScope st)
  len : N.length = fn.n
  ps : (N.take fn.ps).length = fn.ps
  tr : trB N L n (defScope st) (defBody st) = some fn.body
  bind : Binds K fd (N.take fn.ps) []
theorem RSl.start {K : PySem.W.Frag} {H : Hp} {N : List Str} {ds : List D} {vs : List V} (r : RDs K H ds vs) : RSl K H (startD N.length ds) (L2.start N vs) := by
  unfold startD L2.start
  refine ⟨by simp [r.length], fun i d h => ?_⟩
  by_cases hi : i < ds.length
  · rw [List.getElem?_append_left (by simpa using hi), List.getElem?_map] at h
    cases e : ds[i]? with
    | none => rw [e] at h; cases h
    | some d' =>
      rw [e] at h; cases h
      obtain ⟨v, hv, q⟩ := r.get e
      exact ⟨v, by rw [List.getElem?_append_left (by rw [List.length_map, ← r.length]; exact hi), List.getElem?_map, hv]; rfl, q⟩
  · rw [List.getElem?_append_right (by simpa using hi), List.getElem?_replicate] at h
    split at h <;> cases h
theorem prog_ok {P : Program} {w : World} {K : PySem.W.Frag} {mg : Str → Option Value} {base : Heap} {F : Str → Option Fn} {G : Str → Option Str} {L : List Str}
    (defs : ∀ f ∈ L, ∃ st fn N n a fd, DefOk K mg F L f st fn N n a fd) (blt : ∀ x ∈ bltNames, mg x = none) (txt : ∀ x z, G x = some z → ∃ u, mg x = some u ∧ RelV (.str z) u) :
    ∀ (k : Nat) (f : Str) (st : Stmt) (fn : Fn) (N : List Str) (n : Nat) (a : Addr) (fd : FuncData), DefOk K mg F L f st fn N n a fd → FnG P w K mg base k a fd (N.take fn.ps) (spF K F G k f)
  | 0, f, st, fn, N, n, a, fd, d => by
    have no : ∀ vs H Q, ¬ spF K F G 0 f vs H Q := fun vs H Q ⟨ds, S, Q', _, _, h, _⟩ => h
    exact ⟨fun vs H Q h => absurd h (no vs H Q), fun A outer s H args us vs Q _ _ _ _ _ h => absurd h (no vs H Q)⟩
  | k + 1, f, st, fn, N, n, a, fd, d => by
    have ih := prog_ok (P := P) (w := w) (base := base) defs blt txt k
    refine fnG_of d.fun_ d.sc (fun vs H Q ⟨ds, S, Q', r1, _, h, _⟩ => ?_) fun cdv A outer s H vs Q room quiet ⟨ds, S, Q', rd, r, h, kk⟩ => ?_
    · obtain ⟨fn', e, hl, _⟩ := h
      rw [d.tab] at e; cases e
      rw [← r1.length, hl, d.ps]
    · obtain ⟨fn', e, hl, wb⟩ := h
      rw [d.tab] at e; cases e
      have g : GoodS F G L k (cxOf CX0 P w K mg base N f (defScope st) a cdv A outer s H E0).nox := by
        refine ⟨⟨d.sc.nd, rfl, room, quiet, blt, txt, fun f' hf => ?_⟩, rfl, PassesOwn.never, d.sc.kind⟩
        obtain ⟨st', fn', N', n', a', fd', d'⟩ := defs f' hf
        exact ⟨a', fd', _, d'.mg_, d'.fun_.kp, d'.bind, ih f' st' fn' N' n' a' fd' d'⟩
      refine ⟨_, (sndS_all n).B g rfl rfl d.tr, ?_⟩
      refine ⟨startD fn.n ds, S, { nx := fun _ S' => Q' .non S', rt := Q', ex := X0 }, by rw [← d.len]; exact RSl.start rd, r, rfl, wb, ⟨fun σ S' τ H' f1 r1 _ q => kk _ _ _ _ f1 r1 .non q, kk, fun _ _ _ _ _ _ _ q => q.elim, fun _ _ _ _ _ _ _ q => q.elim⟩⟩
/-! ## the law's call -/
theorem law_callG {P : Program} {w : World} {K : PySem.W.Frag} {mg mb : Str → Option Value} {k : Nat} {fa a : Addr} {fd : FuncData} {x : Str} {sp : List V → Hp → VK → Prop} {s1 : Shared} {us : List Value} {ns : List Int}
    (kin : K.In s1.heap) (glob : s1.heap.Ns mainGlobals mg) (bns : s1.heap.Ns builtinsNs mb) (bok : ∀ x : Str, x ≠ "__name__" → mb x = bootBuiltins x) (limit : s1.heap.NoLimit) (gens : s1.gens = #[])
    (obj : s1.heap.get? a = some { cls := .type "list", data := .seq us.toArray }) (nums : IntsAre us ns) (short : ns.length ≤ sizeLine) (room : Room k callerA)
    (F : ∀ base : Heap, K.In base → base.Ns mainGlobals mg → FnG P w K mg base k fa fd [x] sp) (bind : ∀ (s : Shared) (u : Value), BindsTo s fd ⟨[u], []⟩ [(x, u)])
    (pre : ∀ H : Hp, (∀ xs, H a ≠ some (.lst xs)) → (∀ b, H b ≠ none → b = a) → SqL K H a (ns.map V.int) → sp [.ref a] H (fun v _ => v = .bl true)) :
    codeAny (model P w) callerA (.call (.ref fa) ⟨[.ref a], []⟩) (fun r s' => r = .ok (.ret (.bool true)) ∧ OldK s1.heap s'.heap ∧ s'.os = s1.os ∧ AllBare s'.gens) s1 := by
  have rel := vals_ints nums
  have core : ∀ H : Hp, (∀ b u, H b = some u → b = a ∧ ∃ o xs, u = .frz o (.lst xs)) → SqL K H a (ns.map V.int) → HOk P w H s1.heap → (H a ≠ none → K.lookup a = none) →
      codeAny (model P w) callerA (.call (.ref fa) ⟨[.ref a], []⟩) (fun r s' => r = .ok (.ret (.bool true)) ∧ OldK s1.heap s'.heap ∧ s'.os = s1.os ∧ AllBare s'.gens) s1 := by
    intro H only sq hok kno
    have isA : ∀ b, H b ≠ none → b = a := fun b z => by
      cases e : H b with
      | none => exact absurd e z
      | some u => exact (only b u e).1
    have free : ∀ {b : Addr} {o : Obj} {es : Array DictEntry} {n : Nat}, s1.heap.get? b = some o → o.data = .dict es n → H b = none := by
      intro b o es n e d
      cases q : H b with
      | none => rfl
      | some u =>
        have z := isA b (by rw [q]; simp)
        subst z
        rw [obj] at e
        cases e
        cases d
    have ns_ : ∀ {b : Addr} {m : Str → Option Value}, s1.heap.Ns b m → (hidT s1.heap H).Ns b m := by
      rintro b m ⟨o, es, n, e, d, r⟩
      exact ⟨o, es, n, hidT_get e (free e d), d, r⟩
    have kin' : K.In (hidT s1.heap H) := by
      intro b o e
      refine hidT_get (kin b o e) ?_
      cases q : H b with
      | none => rfl
      | some u =>
        have z := isA b (by rw [q]; simp)
        subst z
        rw [kno (by rw [q]; simp)] at e
        cases e
    obtain ⟨mc, l1, l2⟩ := limit
    have mod : Mod K mg (hidT s1.heap H) := { kin := kin', glob := ns_ glob, blt := ⟨mb, ns_ bns, bok⟩, nolimit := ⟨mc, ns_ l1, l2⟩ }
    have e0 : Env0 P w K mg (hidT s1.heap H) callerA [] s1 H :=
      { frames := rfl, mod := mod, bs := fun b o e => of_hidT e, bsz := Nat.le_of_eq (hidT_size _ _), funs := trivial, frf := fun b hb => (by cases hb), hok := hok, bare := .of_eq gens }
    have nolst : ∀ xs, H a ≠ some (.lst xs) := fun xs z => by
      obtain ⟨_, o, ys, e⟩ := only a _ z
      cases e
    have run := (F _ kin' (ns_ glob)).run callerA [] s1 H ⟨[.ref a], []⟩ [.ref a] [.ref a] (fun v _ => v = .bl true) room rfl e0 (bind s1 (.ref a)) (.cons rfl .nil) (pre H nolst isA sq)
    refine codeAny_mono run fun r s' h => ?_
    match r, h with
    | .error e, h => exact h.elim
    | .ok .next, h => exact h.elim
    | .ok .brk, h => exact h.elim
    | .ok .cont, h => exact h.elim
    | .ok (.ret u), ⟨v, H', os, bare, un, hok', rv, q⟩ =>
      have q : v = .bl true := q
      subst q
      have ev : u = Value.bool true := rv
      subst ev
      refine ⟨rfl, OldK.of_keep fun b o e => ?_, os, bare⟩
      cases hb : H b with
      | none => exact un.keep b o e hb (fun z => by cases z) (fun z => by cases z)
      | some t =>
        obtain ⟨_, ob, xs, et⟩ := only b t hb
        subst et
        have e1 := (hok b _ hb).1
        have e2 := (hok' b _ (un.frzs b ob _ hb)).1
        rw [e] at e1
        cases e1
        exact e2
  cases hk : K.lookup a with
  | some o =>
    have e := kin a o hk
    rw [obj] at e
    cases e
    refine core (fun _ => none) (fun b u z => by cases z) (.inr ⟨_, us.toArray, _, hk, rfl, rfl, rfl, ?_, by simpa using rel⟩) (fun b u z => by cases z) (fun z => absurd rfl z)
    rw [List.size_toArray, nums.length]; exact short
  | none =>
    have hit : ∀ {b : Addr} {u : HO}, (if b = a then some (HO.frz { cls := .type "list", data := .seq us.toArray } (.lst (ns.map V.int))) else none) = some u → b = a ∧ u = HO.frz { cls := .type "list", data := .seq us.toArray } (.lst (ns.map V.int)) := by
      intro b u z
      by_cases hb : b = a
      · rw [if_pos hb] at z; exact ⟨hb, (Option.some.inj z).symm⟩
      · rw [if_neg hb] at z; cases z
    refine core (fun b => if b = a then some (.frz { cls := .type "list", data := .seq us.toArray } (.lst (ns.map V.int))) else none) (fun b u z => ?_) (.inl (.inr ⟨_, if_pos rfl⟩)) (fun b u z => ?_) fun _ => hk
    · obtain ⟨e1, e2⟩ := hit z
      exact ⟨e1, _, _, e2⟩
    · obtain ⟨e1, e2⟩ := hit z
      subst e1 e2
      exact ⟨obj, by rw [List.length_map]; exact short, us, _, rel, obj⟩
/-- THE END: what the language says of law(script) is the row -/
theorem walkG {l : PySem.W.OpenLaw} {n k : Nat} {q : Program} {loose : List Str} {XP : (Str → Option Value) → Heap → Prop} {YP : World → Heap → Prop} {d : DefRec} {K : Params → PySem.W.Frag} {F : Str → Option Fn} {G : Str → Option Str} {L : List Str}
    (hn : l.most = some n) (hn2 : n ≤ sizeLine) (hdf : d.params.defaults = []) (room : Room k callerA) (hY : ∀ (w : World) (h : Heap), YP w h → (K w.params).In h)
    (hF : ∀ (w : World) (mg : Str → Option Value) (fa : Addr) (h : Heap), (K w.params).In h → h.Ns mainGlobals mg → mg d.name = some (.ref fa) →
      (∀ f ∈ L, ∃ st fn N n a fd, DefOk (K w.params) mg F L f st fn N n a fd) ∧ (∀ x ∈ bltNames, mg x = none) ∧ (∀ x z, G x = some z → ∃ u, mg x = some u ∧ RelV (.str z) u) ∧
      ∃ st fn N n fd, DefOk (K w.params) mg F L "law" st fn N n fa fd ∧ N.take fn.ps = ([("script" : Str)] : List Str) ∧ ∀ (s : Shared) (u : Value), BindsTo s fd ⟨[u], []⟩ [(("script" : Str), u)])
    (law : ∀ ns : List Int, ns.length ≤ n → W F G k "law" [.scr ns] (fun _ => none) X0 (fun d _ => d = .bl true)) :
    PySem.W.WalkO q loose XP YP l.row.toRowW d [] (fun f vs => PySem.call f vs) := by
  refine Att.attach_call hn hdf fun w s0 s1 mg mb fa o pm cd doc a vs ns Gd Y ho hd hcd hmg hobj hints hlen hg => ?_
  have KX := hY w _ Y
  obtain ⟨defs, blt, txt, st, fn, N, m, fd, dl, hps, hb⟩ := hF w mg fa _ KX Gd.T.g hmg
  refine law_callG KX Gd.T.g Gd.T.b Gd.T.builtins Gd.T.nolimit hg hobj hints (Nat.le_trans hlen hn2) room (fun base _ _ => hps ▸ prog_ok defs blt txt k "law" st fn N m fa fd dl) hb fun H nl _ sq => ?_
  refine ⟨[.scr ns], fun _ => none, fun d _ => d = .bl true, .cons (.scr ?_) .nil, (fun b u z => by cases z), law ns hlen, fun d S' v H' _ _ q e => ?_⟩
  · rcases sq with (z | z) | z
    · exact absurd z (nl _)
    · exact .inl z
    · exact .inr z
  · subst e; cases q; rfl
end Mp

namespace Mp
open PySem

/-! ## rules for reasoning in the language -/
theorem W_call {F : Str → Option Fn} {G : Str → Option Str} {k : Nat} {f : Str} {ds : List D} {S : Sto} {X : XPost} {Q : Post} {fn : Fn} (hk : 1 ≤ k) (h : F f = some fn) (hl : ds.length = fn.ps)
    (hb : wpB (W F G (k - 1)) G fn.body { nx := fun _ S' => Q .non S', rt := Q, ex := X } (startD fn.n ds) S) : W F G k f ds S X Q := by
  obtain ⟨j, rfl⟩ : ∃ j, k = j + 1 := ⟨k - 1, by omega⟩
  exact ⟨fn, h, hl, hb⟩
section
variable {S : Sto} {Q : Post} {R : Bool → Prop}
theorem pAdd_int {i j : Int} : pAdd (.int i) (.int j) S Q = Q (.int (i + j)) S := rfl
theorem pAdd_str {u v : Str} : pAdd (.str u) (.str v) S Q = (u.length + v.length ≤ sizeLine ∧ Q (.str (u ++ v)) S) := rfl
theorem pAdd_tup {u v : List D} : pAdd (.tup u) (.tup v) S Q = (u.length + v.length ≤ sizeLine ∧ Q (.tup (u ++ v)) S) := rfl
theorem pAdd_lst {p q : Addr} {u v : List D} (h : S p = some (.lst u)) (h' : S q = some (.lst v)) : pAdd (.ref p) (.ref q) S Q = (u.length + v.length ≤ sizeLine ∧ pNew (.lst (u ++ v)) S Q) := by
  unfold pAdd; simp only [h, h']
theorem pMul_int {i j : Int} : pMul (.int i) (.int j) S Q = ((i.natAbs.log2 + j.natAbs.log2 < 1000000 ∨ L2.CMul i j) ∧ Q (.int (i * j)) S) := rfl
theorem cmul_r {i j : Int} (h : -(2 ^ 64) < j ∧ j < 2 ^ 64) : i.natAbs.log2 + j.natAbs.log2 < 1000000 ∨ L2.CMul i j := .inr (.inr h)
theorem cmul_l {i j : Int} (h : -(2 ^ 64) < i ∧ i < 2 ^ 64) : i.natAbs.log2 + j.natAbs.log2 < 1000000 ∨ L2.CMul i j := .inr (.inl h)
theorem pBin_add {x y : D} : pBin .Add x y S Q = pAdd x y S Q := rfl
theorem pBin_mul {x y : D} : pBin .Mult x y S Q = pMul x y S Q := rfl
theorem pBin_sub {i j : Int} : pBin .Sub (.int i) (.int j) S Q = Q (.int (i - j)) S := by simp [pBin]
theorem pBin_mod {i j : Int} : pBin .Mod (.int i) (.int j) S Q = (0 < j ∧ Q (.int (i % j)) S) := by simp [pBin]
theorem pBin_div {i j : Int} : pBin .FloorDiv (.int i) (.int j) S Q = ((0 < j ∧ j.natAbs.log2 < 9000) ∧ Q (.int (i / j)) S) := by simp [pBin]
theorem pBin_pow {i j : Int} : pBin .Pow (.int i) (.int j) S Q = ((0 ≤ j ∧ j ≤ 1000000 ∧ i.natAbs < 2 ^ 64) ∧ Q (.int (i ^ j.toNat)) S) := by simp [pBin]
theorem pAug_add {i j : Int} {T : D → Prop} : pAug .Add (.int i) (.int j) T = T (.int (i + j)) := by simp [pAug]
theorem pAug_sub {i j : Int} {T : D → Prop} : pAug .Sub (.int i) (.int j) T = T (.int (i - j)) := by simp [pAug]
/-! ### == -/
theorem sh_flat {p : PyData} (h : p.canLay0 = true) (d : p.depth ≤ 64) : SeqAt.shaped p = true := by
  unfold SeqAt.shaped; rw [h, decide_eq_true d]; rfl
theorem pEq_of {x y : D} {b : Bool} (h : scalD x y = true) (e : decide (x.toV = y.toV) = b) (g : ∀ p q, Pd S x p → Pd S y q → PyData.eqv p q = b) : pEq x y S R = R b := by
  apply propext
  constructor
  · rintro (⟨_, h⟩ | ⟨p, q, h1, h2, _, _, h⟩)
    · rwa [e] at h
    · rwa [g p q h1 h2] at h
  · intro r
    exact .inl ⟨h, by rw [e]; exact r⟩
theorem pEq_int {i j : Int} : pEq (.int i) (.int j) S R = R (decide (i = j)) := pEq_of rfl (by simp [D.toV]) fun p q h1 h2 => by cases h1; cases h2; simp [PyData.eqv, Bool.beq_eq_decide_eq]
theorem pEq_str {i j : Str} : pEq (.str i) (.str j) S R = R (decide (i = j)) := pEq_of rfl (by simp [D.toV]) fun p q h1 h2 => by cases h1; cases h2; simp [PyData.eqv, Bool.beq_eq_decide_eq]
theorem pEq_bl {i j : Bool} : pEq (.bl i) (.bl j) S R = R (decide (i = j)) := pEq_of rfl (by simp [D.toV]) fun p q h1 h2 => by cases h1; cases h2; cases i <;> cases j <;> simp [PyData.eqv]
theorem pEq_non : pEq .non .non S R = R true := pEq_of rfl (by simp [D.toV]) fun p q h1 h2 => by cases h1; cases h2; simp [PyData.eqv]
theorem pEq_ni {j : Int} : pEq .non (.int j) S R = R false := pEq_of rfl (by simp [D.toV]) fun p q h1 h2 => by cases h1; cases h2; simp [PyData.eqv]
theorem pEq_in {j : Int} : pEq (.int j) .non S R = R false := pEq_of rfl (by simp [D.toV]) fun p q h1 h2 => by cases h1; cases h2; simp [PyData.eqv]
theorem pEq_ns {j : Str} : pEq .non (.str j) S R = R false := pEq_of rfl (by simp [D.toV]) fun p q h1 h2 => by cases h1; cases h2; simp [PyData.eqv]
theorem pEq_sn {j : Str} : pEq (.str j) .non S R = R false := pEq_of rfl (by simp [D.toV]) fun p q h1 h2 => by cases h1; cases h2; simp [PyData.eqv]
theorem pEq_is {i : Int} {j : Str} : pEq (.int i) (.str j) S R = R false := pEq_of rfl (by simp [D.toV]) fun p q h1 h2 => by cases h1; cases h2; simp [PyData.eqv]
theorem pEq_si {i : Int} {j : Str} : pEq (.str j) (.int i) S R = R false := pEq_of rfl (by simp [D.toV]) fun p q h1 h2 => by cases h1; cases h2; simp [PyData.eqv]
/-! ### types -/
def tyEq : Ty → Ty → Bool
  | .int, .int => true | .bool, .bool => true | .str, .str => true | .tuple, .tuple => true | .list, .list => true | .dict, .dict => true
  | _, _ => false
theorem pIsi_non {t : Ty} : pIsi .non t S R = R false := by cases t <;> rfl
theorem pIsi_bl {t : Ty} {b : Bool} : pIsi (.bl b) t S R = R (tyEq t .bool || tyEq t .int) := by cases t <;> rfl
theorem pIsi_int {t : Ty} {b : Int} : pIsi (.int b) t S R = R (tyEq t .int) := by cases t <;> rfl
theorem pIsi_str {t : Ty} {b : Str} : pIsi (.str b) t S R = R (tyEq t .str) := by cases t <;> rfl
theorem pIsi_tup {t : Ty} {b : List D} : pIsi (.tup b) t S R = R (tyEq t .tuple) := by cases t <;> rfl
theorem pIsi_scr {t : Ty} {b : List Int} : pIsi (.scr b) t S R = R (tyEq t .list) := by cases t <;> rfl
theorem pIsi_lst {t : Ty} {a : Addr} {u : List D} (h : S a = some (.lst u)) : pIsi (.ref a) t S R = R (tyEq t .list) := by
  unfold pIsi tyOf; simp only [h]; cases t <;> rfl
theorem pIsi_dic {t : Ty} {a : Addr} {u : List (L2.Key × D)} (h : S a = some (.dic u)) : pIsi (.ref a) t S R = R (tyEq t .dict) := by
  unfold pIsi tyOf; simp only [h]; cases t <;> rfl
/-! ### truth -/
theorem pTru_non : pTru .non S R = R false := rfl
theorem pTru_bl {b : Bool} : pTru (.bl b) S R = R b := rfl
theorem pTru_int {b : Int} : pTru (.int b) S R = R (b != 0) := rfl
theorem pTru_lst {a : Addr} {u : List D} (h : S a = some (.lst u)) : pTru (.ref a) S R = R (!u.isEmpty) := by unfold pTru; simp only [h]
/-! ### places -/
theorem atI_0 {α : Type} {u : List α} : L2.atI u 0 = u[0]? := by
  unfold L2.atI L2.ixN; cases u <;> simp
theorem atI_n {α : Type} {u : List α} (n : Nat) : L2.atI u (n : Int) = u[n]? := by
  unfold L2.atI L2.ixN
  by_cases h : n < u.length
  · rw [if_pos (by omega), if_pos (by omega)]; simp
  · rw [if_pos (by omega), if_neg (by omega)]; simp; omega
theorem atI_1 {α : Type} {u : List α} : L2.atI u 1 = u[1]? := atI_n 1
theorem atI_2 {α : Type} {u : List α} : L2.atI u 2 = u[2]? := atI_n 2
theorem atI_3 {α : Type} {u : List α} : L2.atI u 3 = u[3]? := atI_n 3
theorem atI_4 {α : Type} {u : List α} : L2.atI u 4 = u[4]? := atI_n 4
theorem atI_of {α : Type} {u : List α} {i : Int} (h : 0 ≤ i) : L2.atI u i = u[i.toNat]? := by
  have := atI_n (u := u) i.toNat
  rwa [Int.toNat_of_nonneg h] at this
theorem ixN_of {n : Nat} {i : Int} (h : 0 ≤ i) (h' : i < n) : L2.ixN n i = some i.toNat := by unfold L2.ixN; rw [if_pos h, if_pos h']
theorem pIx_tup {u : List D} {i : Int} : pIx (.tup u) (.int i) S Q = ∃ d, L2.atI u i = some d ∧ Q d S := by simp [pIx]
theorem pIx_lst {a : Addr} {u : List D} {i : Int} (h : S a = some (.lst u)) : pIx (.ref a) (.int i) S Q = ∃ d, L2.atI u i = some d ∧ Q d S := by unfold pIx; simp [h]
theorem pIx_str {z : Str} {i : Int} : pIx (.str z) (.int i) S Q = ∃ c, z.length ≤ sizeLine ∧ L2.atI z.cps.toList i = some c ∧ Q (.str ⟨#[c]⟩) S := by simp [pIx]
theorem pSet_lst {a : Addr} {u : List D} {i : Int} {y : D} {T : Sto → Prop} (h : S a = some (.lst u)) : pSet (.ref a) (.int i) y S T = ∃ j, L2.ixN u.length i = some j ∧ T (S.put a (.lst (u.set j y))) := by
  unfold pSet; simp [h]
theorem sIx_some {n : Nat} {d : Nat} {i : Int} (h : 0 ≤ i) : HT.sIx n d (some i) = min i.toNat n := by
  have := HT.sIx_nat n d i.toNat
  rwa [Int.toNat_of_nonneg h] at this
theorem cutD_from {α : Type} {u : List α} {i : Int} (h : 0 ≤ i) : cutD u (some i) none = u.drop i.toNat := by
  unfold cutD
  rw [sIx_some h]
  show (u.drop (min i.toNat u.length)).take (u.length - min i.toNat u.length) = _
  have e : u.drop (min i.toNat u.length) = u.drop i.toNat := by
    by_cases hl : i.toNat ≤ u.length
    · rw [Nat.min_eq_left hl]
    · rw [Nat.min_eq_right (by omega), List.drop_eq_nil_of_le (Nat.le_refl _), List.drop_eq_nil_of_le (by omega)]
  rw [e, List.take_of_length_le]
  rw [List.length_drop]; omega
theorem cutD_to {α : Type} {u : List α} {i : Int} (h : 0 ≤ i) : cutD u none (some i) = u.take i.toNat := by
  unfold cutD
  rw [sIx_some h]
  show (u.drop 0).take (min i.toNat u.length - 0) = _
  rw [List.drop_zero, Nat.sub_zero]
  by_cases hl : i.toNat ≤ u.length
  · rw [Nat.min_eq_left hl]
  · rw [Nat.min_eq_right (by omega), List.take_of_length_le (Nat.le_refl _), List.take_of_length_le (by omega)]
theorem pSl_tup {u : List D} {lo hi : Option Int} : pSl (.tup u) lo hi S Q = Q (.tup (cutD u lo hi)) S := rfl
theorem pSl_str {z : Str} {lo hi : Option Int} : pSl (.str z) lo hi S Q = (z.length ≤ sizeLine ∧ Q (.str (L2.cutS z lo hi)) S) := rfl
theorem pSl_scr {u : List Int} {lo hi : Option Int} : pSl (.scr u) lo hi S Q = pNew (.lst ((cutD u lo hi).map .int)) S Q := rfl
theorem pSl_lst {a : Addr} {u : List D} {lo hi : Option Int} (h : S a = some (.lst u)) : pSl (.ref a) lo hi S Q = pNew (.lst (cutD u lo hi)) S Q := by unfold pSl; simp [h]
theorem pLen_lst {a : Addr} {u : List D} (h : S a = some (.lst u)) : pLen (.ref a) S Q = Q (.int u.length) S := by unfold pLen; simp [h]
theorem pLen_tup {u : List D} : pLen (.tup u) S Q = Q (.int u.length) S := rfl
theorem pLen_str {u : Str} : pLen (.str u) S Q = (u.length ≤ sizeLine ∧ Q (.int u.length) S) := rfl
theorem pM_append {a : Addr} {u : List D} {y : D} (h : S a = some (.lst u)) : pM .append (.ref a) [y] S Q = (u.length < sizeLine ∧ Q .non (S.put a (.lst (u ++ [y])))) := by unfold pM; simp [h]
theorem pM_extend {a b : Addr} {u v : List D} (h : S a = some (.lst u)) (h' : S b = some (.lst v)) : pM .extend (.ref a) [.ref b] S Q = (u.length + v.length ≤ sizeLine ∧ Q .non (S.put a (.lst (u ++ v)))) := by unfold pM; simp [h, h']
theorem mTy_append {a : Addr} {u : List D} (h : S a = some (.lst u)) : mTy .append (.ref a) S = True := by simp [mTy, h]
theorem mTy_extend {a : Addr} {u : List D} (h : S a = some (.lst u)) : mTy .extend (.ref a) S = True := by simp [mTy, h]
theorem mTy_pop {a : Addr} {u : List D} (h : S a = some (.lst u)) : mTy .pop (.ref a) S = True := by simp [mTy, h]
theorem pItK_tup {u : List D} {T : List D → (Sto → Prop) → Prop} : pItK .val [.tup u] S T = T u fun _ => True := rfl
theorem pItK_str {z : Str} {T : List D → (Sto → Prop) → Prop} : pItK .val [.str z] S T = T (z.cps.toList.map fun c => .str ⟨#[c]⟩) fun _ => True := rfl
theorem pItK_lst {a : Addr} {u : List D} {T : List D → (Sto → Prop) → Prop} (h : S a = some (.lst u)) : pItK .val [.ref a] S T = T u fun S => S a = some (.lst u) := by unfold pItK pIt; simp [h]
theorem pItK_r1 {j : Int} {T : List D → (Sto → Prop) → Prop} : pItK .rng [.int j] S T = (small j ∧ T (rgOf 0 j) fun _ => True) := rfl
theorem pItK_r2 {i j : Int} {T : List D → (Sto → Prop) → Prop} : pItK .rng [.int i, .int j] S T = ((small i ∧ small j) ∧ T (rgOf i j) fun _ => True) := rfl
end
section
variable {S : Sto} {Q : Post} {R : Bool → Prop}
theorem pB_len {x : D} : pB .len [x] S Q = pLen x S Q := by cases x <;> rfl
theorem pB_int {i : Int} : pB .int [.int i] S Q = Q (.int i) S := rfl
theorem pB_intb {b : Bool} : pB .int [.bl b] S Q = Q (.int (if b then 1 else 0)) S := rfl
theorem pB_max {i j : Int} : pB .max [.int i, .int j] S Q = Q (.int (if j > i then j else i)) S := rfl
theorem pB_min {i j : Int} : pB .min [.int i, .int j] S Q = Q (.int (if j < i then j else i)) S := rfl
theorem pB_tuple {x : D} : pB .tuple [x] S Q = ∃ u, seqOf x S = some u ∧ Q (.tup u) S := by cases x <;> rfl
theorem pB_list {x : D} : pB .list [x] S Q = ∃ u, seqOf x S = some u ∧ pNew (.lst u) S Q := by cases x <;> rfl
theorem pB_str {i : Int} : pB .str [.int i] S Q = (i.natAbs.log2 < 1920 ∧ Q (.str (toString i)) S) := rfl
theorem pB_sum {a : Addr} {u : List D} {ns : List Int} (h : S a = some (.lst u)) (h' : intsOf u = some ns) : pB .sum [.ref a] S Q = Q (.int ns.sum) S := by unfold pB; simp [h, h']
theorem pB_any {a : Addr} {u : List D} {bs : List Bool} (h : S a = some (.lst u)) (h' : blsOf u = some bs) : pB .any [.ref a] S Q = Q (.bl (bs.any id)) S := by unfold pB; simp [h, h']
theorem pB_all {a : Addr} {u : List D} {bs : List Bool} (h : S a = some (.lst u)) (h' : blsOf u = some bs) : pB .all [.ref a] S Q = Q (.bl (bs.all id)) S := by unfold pB; simp [h, h']
theorem pB_repr {x : D} : pB .repr [x] S Q = ∃ p, Pd S x p ∧ p.showable = true ∧ p.depth ≤ 40 ∧ p.shown.length ≤ sizeLine ∧ Q (.str p.shown) S := by cases x <;> rfl
theorem seqOf_tup {u : List D} : seqOf (.tup u) S = some u := rfl
theorem seqOf_scr {u : List Int} : seqOf (.scr u) S = some (u.map .int) := rfl
theorem seqOf_lst {a : Addr} {u : List D} (h : S a = some (.lst u)) : seqOf (.ref a) S = some u := by unfold seqOf; simp [h]
theorem seqOf_put {a : Addr} {u : List D} : seqOf (.ref a) (S.put a (.lst u)) = some u := seqOf_lst put_same
theorem pCmp_eq {x y : D} : pCmp .Eq x y S R = pEq x y S R := rfl
theorem pCmp_ne {x y : D} : pCmp .NotEq x y S R = pEq x y S fun b => R (!b) := rfl
theorem pCmp_lt {i j : Int} : pCmp .Lt (.int i) (.int j) S R = R (decide (i < j)) := by simp [pCmp]
theorem pCmp_le {i j : Int} : pCmp .LtE (.int i) (.int j) S R = R (decide (i ≤ j)) := by simp [pCmp]
theorem pCmp_gt {i j : Int} : pCmp .Gt (.int i) (.int j) S R = R (decide (j < i)) := by simp [pCmp]
theorem pCmp_ge {i j : Int} : pCmp .GtE (.int i) (.int j) S R = R (decide (j ≤ i)) := by simp [pCmp]
theorem pCmp_is {x : D} : pCmp .Is x .non S R = R (match x with | .non => true | _ => false) := by cases x <;> simp [pCmp]
theorem pCmp_isnot {x : D} : pCmp .IsNot x .non S R = R (match x with | .non => false | _ => true) := by cases x <;> simp [pCmp]
theorem pCmp_in {x y : D} : pCmp .In x y S R = pIn x y S R := rfl
theorem pCmp_notin {x y : D} : pCmp .NotIn x y S R = pIn x y S fun b => R (!b) := rfl
/-! by what stands at the address -/
def ixO (o : Option Ob) (i : Int) (S : Sto) (Q : Post) : Prop := match o with | some (.lst u) => ∃ d, L2.atI u i = some d ∧ Q d S | _ => False
theorem ixO_lst {u : List D} {i : Int} : ixO (some (.lst u)) i S Q = ∃ d, L2.atI u i = some d ∧ Q d S := rfl
theorem pIx_ref {a : Addr} {i : Int} : pIx (.ref a) (.int i) S Q = ixO (S a) i S Q := by
  unfold pIx ixO; cases h : S a with
  | none => simp [h]
  | some o => cases o <;> simp [h]
def setO (o : Option Ob) (a : Addr) (i : Int) (y : D) (S : Sto) (T : Sto → Prop) : Prop := match o with | some (.lst u) => ∃ j, L2.ixN u.length i = some j ∧ T (S.put a (.lst (u.set j y))) | _ => False
theorem setO_lst {u : List D} {a : Addr} {i : Int} {y : D} {T : Sto → Prop} : setO (some (.lst u)) a i y S T = ∃ j, L2.ixN u.length i = some j ∧ T (S.put a (.lst (u.set j y))) := rfl
theorem pSet_ref {a : Addr} {i : Int} {y : D} {T : Sto → Prop} : pSet (.ref a) (.int i) y S T = setO (S a) a i y S T := by
  unfold pSet setO; cases h : S a with
  | none => simp [h]
  | some o => cases o <;> simp [h]
def lenO (o : Option Ob) (S : Sto) (Q : Post) : Prop := match o with | some (.lst u) => Q (.int u.length) S | some (.dic u) => Q (.int u.length) S | _ => False
theorem lenO_lst {u : List D} : lenO (some (.lst u)) S Q = Q (.int u.length) S := rfl
theorem pLen_ref {a : Addr} : pLen (.ref a) S Q = lenO (S a) S Q := by
  unfold pLen lenO; cases h : S a with
  | none => simp [h]
  | some o => cases o <;> simp [h]
def slO (o : Option Ob) (lo hi : Option Int) (S : Sto) (Q : Post) : Prop := match o with | some (.lst u) => pNew (.lst (cutD u lo hi)) S Q | _ => False
theorem slO_lst {u : List D} {lo hi : Option Int} : slO (some (.lst u)) lo hi S Q = pNew (.lst (cutD u lo hi)) S Q := rfl
theorem pSl_ref {a : Addr} {lo hi : Option Int} : pSl (.ref a) lo hi S Q = slO (S a) lo hi S Q := by
  unfold pSl slO; cases h : S a with
  | none => simp [h]
  | some o => cases o <;> simp [h]
def isiO (o : Option Ob) (t : Ty) (R : Bool → Prop) : Prop := match o with | some (.lst _) => R (tyEq t .list) | some (.dic _) => R (tyEq t .dict) | some (.lck _) => R (tyEq t .dict) | _ => False
theorem isiO_lst {u : List D} {t : Ty} : isiO (some (.lst u)) t R = R (tyEq t .list) := rfl
theorem isiO_dic {u : List (L2.Key × D)} {t : Ty} : isiO (some (.dic u)) t R = R (tyEq t .dict) := rfl
theorem pIsi_ref {a : Addr} {t : Ty} : pIsi (.ref a) t S R = isiO (S a) t R := by
  unfold pIsi tyOf isiO; cases h : S a with
  | none => simp [h]
  | some o => cases o <;> simp only [h] <;> cases t <;> rfl
def truO (o : Option Ob) (R : Bool → Prop) : Prop := match o with | some (.lst u) => R (!u.isEmpty) | some (.dic u) => R (!u.isEmpty) | _ => False
theorem truO_lst {u : List D} : truO (some (.lst u)) R = R (!u.isEmpty) := rfl
theorem truO_dic {u : List (L2.Key × D)} : truO (some (.dic u)) R = R (!u.isEmpty) := rfl
theorem pTru_ref {a : Addr} : pTru (.ref a) S R = truO (S a) R := by
  unfold pTru truO; cases h : S a with
  | none => simp [h]
  | some o => cases o <;> simp [h]
def itO (o : Option Ob) (a : Addr) (T : List D → (Sto → Prop) → Prop) : Prop := match o with | some (.lst u) => T u (fun S => S a = some (.lst u)) | _ => False
theorem itO_lst {u : List D} {a : Addr} {T : List D → (Sto → Prop) → Prop} : itO (some (.lst u)) a T = T u (fun S => S a = some (.lst u)) := rfl
theorem pItK_ref {a : Addr} {T : List D → (Sto → Prop) → Prop} : pItK .val [.ref a] S T = itO (S a) a T := by
  unfold pItK pIt itO; cases h : S a with
  | none => simp [h]
  | some o => cases o <;> simp [h]
def addO (o o' : Option Ob) (S : Sto) (Q : Post) : Prop := match o, o' with | some (.lst u), some (.lst v) => u.length + v.length ≤ sizeLine ∧ pNew (.lst (u ++ v)) S Q | _, _ => False
theorem addO_lst {u v : List D} : addO (some (.lst u)) (some (.lst v)) S Q = (u.length + v.length ≤ sizeLine ∧ pNew (.lst (u ++ v)) S Q) := rfl
theorem pAdd_ref {a b : Addr} : pAdd (.ref a) (.ref b) S Q = addO (S a) (S b) S Q := by
  unfold pAdd addO; rfl
def appO (o : Option Ob) (a : Addr) (y : D) (S : Sto) (Q : Post) : Prop := match o with | some (.lst u) => u.length < sizeLine ∧ Q .non (S.put a (.lst (u ++ [y]))) | _ => False
theorem appO_lst {u : List D} {a : Addr} {y : D} : appO (some (.lst u)) a y S Q = (u.length < sizeLine ∧ Q .non (S.put a (.lst (u ++ [y])))) := rfl
theorem pM_app {a : Addr} {y : D} : pM .append (.ref a) [y] S Q = appO (S a) a y S Q := by
  unfold pM appO; cases h : S a with
  | none => simp [h]
  | some o => cases o <;> simp [h]
def extO (o o' : Option Ob) (a : Addr) (S : Sto) (Q : Post) : Prop := match o, o' with | some (.lst u), some (.lst v) => u.length + v.length ≤ sizeLine ∧ Q .non (S.put a (.lst (u ++ v))) | _, _ => False
theorem extO_lst {u v : List D} {a : Addr} : extO (some (.lst u)) (some (.lst v)) a S Q = (u.length + v.length ≤ sizeLine ∧ Q .non (S.put a (.lst (u ++ v)))) := rfl
theorem pM_ext {a b : Addr} : pM .extend (.ref a) [.ref b] S Q = extO (S a) (S b) a S Q := by
  unfold pM extO; rfl
def isL (o : Option Ob) : Prop := match o with | some (.lst _) => True | _ => False
theorem isL_lst {u : List D} : isL (some (.lst u)) = True := rfl
theorem mTy_list {m : Mt} {a : Addr} (h : m ≠ .get) : mTy m (.ref a) S = isL (S a) := by
  unfold mTy isL
  cases m <;> first | exact absurd rfl h | (cases e : S a with | none => simp [e] | some o => cases o <;> simp [e])
theorem mTy_app {a : Addr} : mTy .append (.ref a) S = isL (S a) := mTy_list (by decide)
theorem mTy_ext {a : Addr} : mTy .extend (.ref a) S = isL (S a) := mTy_list (by decide)
theorem mTy_pp {a : Addr} : mTy .pop (.ref a) S = isL (S a) := mTy_list (by decide)
def seqO (o : Option Ob) : Option (List D) := match o with | some (.lst u) => some u | _ => none
theorem seqO_lst {u : List D} : seqO (some (.lst u)) = some u := rfl
theorem seqOf_ref {a : Addr} : seqOf (.ref a) S = seqO (S a) := by
  unfold seqOf seqO; rfl
def boolsO (o : Option Ob) (f : List Bool → Bool) (S : Sto) (Q : Post) : Prop := match o with | some (.lst u) => ∃ bs, blsOf u = some bs ∧ Q (.bl (f bs)) S | _ => False
theorem boolsO_lst {u : List D} {f : List Bool → Bool} : boolsO (some (.lst u)) f S Q = ∃ bs, blsOf u = some bs ∧ Q (.bl (f bs)) S := rfl
theorem pB_anyr {a : Addr} : pB .any [.ref a] S Q = boolsO (S a) (fun bs => bs.any id) S Q := by
  unfold pB boolsO; cases h : S a with
  | none => simp [h]
  | some o => cases o <;> simp [h]
theorem pB_allr {a : Addr} : pB .all [.ref a] S Q = boolsO (S a) (fun bs => bs.all id) S Q := by
  unfold pB boolsO; cases h : S a with
  | none => simp [h]
  | some o => cases o <;> simp [h]
def sumO (o : Option Ob) (S : Sto) (Q : Post) : Prop := match o with | some (.lst u) => ∃ ns, intsOf u = some ns ∧ Q (.int ns.sum) S | _ => False
theorem sumO_lst {u : List D} : sumO (some (.lst u)) S Q = ∃ ns, intsOf u = some ns ∧ Q (.int ns.sum) S := rfl
theorem pB_sumr {a : Addr} : pB .sum [.ref a] S Q = sumO (S a) S Q := by
  unfold pB sumO; cases h : S a with
  | none => simp [h]
  | some o => cases o <;> simp [h]
theorem blsOf_map {α : Type} {f : α → Bool} : ∀ l : List α, blsOf (l.map fun x => D.bl (f x)) = some (l.map f)
  | [] => rfl
  | x :: r => by simp [blsOf, blsOf_map r]
theorem intsOf_map : ∀ l : List Int, intsOf (l.map D.int) = some l
  | [] => rfl
  | x :: r => by simp [intsOf, intsOf_map r]
theorem intsOf_mapf {α : Type} {f : α → Int} : ∀ l : List α, intsOf (l.map fun x => D.int (f x)) = some (l.map f)
  | [] => rfl
  | x :: r => by simp [intsOf, intsOf_mapf r]
/-! the same just behind a store -/
theorem pIx_put {a : Addr} {u : List D} {i : Int} : pIx (.ref a) (.int i) (S.put a (.lst u)) Q = ∃ d, L2.atI u i = some d ∧ Q d (S.put a (.lst u)) := pIx_lst put_same
theorem pSet_put {a : Addr} {u : List D} {i : Int} {y : D} {T : Sto → Prop} : pSet (.ref a) (.int i) y (S.put a (.lst u)) T = ∃ j, L2.ixN u.length i = some j ∧ T (S.put a (.lst (u.set j y))) := by rw [pSet_lst put_same]; simp only [put_put]
theorem pLen_put {a : Addr} {u : List D} : pLen (.ref a) (S.put a (.lst u)) Q = Q (.int u.length) (S.put a (.lst u)) := pLen_lst put_same
theorem pSl_put {a : Addr} {u : List D} {lo hi : Option Int} : pSl (.ref a) lo hi (S.put a (.lst u)) Q = pNew (.lst (cutD u lo hi)) (S.put a (.lst u)) Q := pSl_lst put_same
theorem pIsi_put {t : Ty} {a : Addr} {u : List D} : pIsi (.ref a) t (S.put a (.lst u)) R = R (tyEq t .list) := pIsi_lst put_same
theorem pTru_put {a : Addr} {u : List D} : pTru (.ref a) (S.put a (.lst u)) R = R (!u.isEmpty) := pTru_lst put_same
theorem pItK_put {a : Addr} {u : List D} {T : List D → (Sto → Prop) → Prop} : pItK .val [.ref a] (S.put a (.lst u)) T = T u fun S => S a = some (.lst u) := pItK_lst put_same
theorem ixN5_0 : L2.ixN 5 0 = some 0 := by decide
theorem ixN5_1 : L2.ixN 5 1 = some 1 := by decide
theorem ixN5_2 : L2.ixN 5 2 = some 2 := by decide
theorem ixN5_3 : L2.ixN 5 3 = some 3 := by decide
theorem ixN5_4 : L2.ixN 5 4 = some 4 := by decide
end
/-! ### stores -/
/-- all that stood stands -/
def Le (S S' : Sto) : Prop := ∀ b o, S b = some o → S' b = some o
/-- all but at p -/
def LeX (p : Addr) (S S' : Sto) : Prop := ∀ b o, b ≠ p → S b = some o → S' b = some o
theorem Le.refl {S : Sto} : Le S S := fun _ _ h => h
theorem Le.trans {S S1 S2 : Sto} (a : Le S S1) (b : Le S1 S2) : Le S S2 := fun c o h => b c o (a c o h)
theorem Le.put {S : Sto} {a : Addr} {o : Ob} (h : S a = none) : Le S (S.put a o) := fun b u e => by
  rw [put_ne (fun c => by subst c; rw [h] at e; cases e)]; exact e
theorem Le.x {S S' : Sto} {p : Addr} (h : Le S S') : LeX p S S' := fun b o _ e => h b o e
theorem LeX.refl {S : Sto} {p : Addr} : LeX p S S := fun _ _ _ h => h
theorem LeX.trans {S S1 S2 : Sto} {p : Addr} (a : LeX p S S1) (b : LeX p S1 S2) : LeX p S S2 := fun c o n h => b c o n (a c o n h)
theorem LeX.put {S : Sto} {p : Addr} {o : Ob} : LeX p S (S.put p o) := fun b u n e => by rw [put_ne n]; exact e
/-- what was added at a new address, then changed there -/
theorem Le.put2 {S S' : Sto} {a : Addr} {o : Ob} (h : S a = none) (l : Le S S') : Le S (S'.put a o) := fun b u e => by
  rw [put_ne (fun c => by subst c; rw [h] at e; cases e)]; exact l b u e
theorem ne_new {S : Sto} {a b : Addr} {o : Ob} (h : S a = some o) (h' : S b = none) : a ≠ b := fun c => by subst c; rw [h] at h'; cases h'
/-! ### loops -/
/-- a for over things that stand still, by an invariant over what has been walked -/
theorem for_inv {chk : Sto → Prop} {body : D → En → Sl → Sto → Prop} {N : En} (I : List D → Sl → Sto → Prop) {items : List D} {σ : Sl} {S : Sto} (h0 : I [] σ S) (hc : ∀ pre σ S, I pre σ S → chk S)
    (hs : ∀ pre x post σ S (K : Sl → Sto → Prop), items = pre ++ x :: post → I pre σ S → (∀ σ S, I (pre ++ [x]) σ S → K σ S) → body x { N with nx := K, ct := K, bk := N.nx } σ S)
    (hd : ∀ σ S, I items σ S → N.nx σ S) : wpFor chk body items N σ S := by
  have go : ∀ (post pre : List D) (σ : Sl) (S : Sto), items = pre ++ post → I pre σ S → wpFor chk body post N σ S := by
    intro post
    induction post with
    | nil => intro pre σ S e h; rw [List.append_nil] at e; subst e; exact ⟨hc _ _ _ h, hd _ _ h⟩
    | cons x post ih => exact fun pre σ S e h => ⟨hc _ _ _ h, hs pre x post σ S _ e h fun σ' S' h' => ih (pre ++ [x]) σ' S' (by rw [e]; simp) h'⟩
  exact go items [] σ S rfl h0
/-- a for over numbers from lo -/
theorem for_rng {body : D → En → Sl → Sto → Prop} {N : En} {lo hi : Int} (I : Nat → Sl → Sto → Prop) {σ : Sl} {S : Sto} (h0 : I 0 σ S)
    (hs : ∀ (i : Nat) σ S (K : Sl → Sto → Prop), i < (hi - lo).toNat → I i σ S → (∀ σ S, I (i + 1) σ S → K σ S) → body (.int (lo + i)) { N with nx := K, ct := K, bk := N.nx } σ S)
    (hd : ∀ σ S, I (hi - lo).toNat σ S → N.nx σ S) : wpFor (fun _ => True) body (rgOf lo hi) N σ S := by
  refine for_inv (fun pre σ S => I pre.length σ S) h0 (fun _ _ _ _ => trivial) (fun pre x post σ S K e h hK => ?_) (fun σ S h => hd σ S (by simpa [rgOf] using h))
  have hl : pre.length < (rgOf lo hi).length := by rw [e]; simp
  have hx : (rgOf lo hi)[pre.length]? = some x := by rw [e]; simp
  rw [show (rgOf lo hi).length = (hi - lo).toNat by simp [rgOf]] at hl
  have : x = .int (lo + (pre.length : Int)) := by
    unfold rgOf at hx
    rw [List.getElem?_map, List.getElem?_range hl] at hx
    exact (Option.some.inj hx).symm
  subst this
  exact hs pre.length σ S K hl h fun σ' S' h' => hK σ' S' (by simpa using h')
/-- a comprehension, by an invariant -/
theorem lc_inv {chk : Sto → Prop} {el : D → Sto → (Option D → Sto → Prop) → Prop} (I : List D → List D → Sto → Prop) {items : List D} {S : Sto} {Q : List D → Sto → Prop} (h0 : I [] [] S) (hl : items.length ≤ sizeLine) (hc : ∀ pre acc S, I pre acc S → chk S)
    (hs : ∀ pre x post acc S (K : Option D → Sto → Prop), items = pre ++ x :: post → I pre acc S → (∀ y S', I (pre ++ [x]) (acc ++ [y]) S' → K (some y) S') → (∀ S', I (pre ++ [x]) acc S' → K none S') → el x S K)
    (hd : ∀ acc S, I items acc S → Q acc S) : wpLC chk el items [] S Q := by
  have go : ∀ (post pre acc : List D) (S : Sto), items = pre ++ post → acc.length ≤ pre.length → I pre acc S → wpLC chk el post acc S Q := by
    intro post
    induction post with
    | nil => intro pre acc S e _ h; rw [List.append_nil] at e; subst e; exact ⟨hc _ _ _ h, hd _ _ h⟩
    | cons x post ih =>
      intro pre acc S e hlen h
      have hp : pre.length < sizeLine := by
        have := congrArg List.length e
        simp at this; omega
      exact ⟨hc _ _ _ h, hs pre x post acc S _ e h (fun y S' h' => ⟨by omega, ih (pre ++ [x]) (acc ++ [y]) S' (by rw [e]; simp) (by simp; omega) h'⟩) fun S' h' => ih (pre ++ [x]) acc S' (by rw [e]; simp) (by simp; omega) h'⟩
  exact go items [] [] S rfl (Nat.le_refl _) h0
/-- a comprehension that leaves the store's things as they are -/
theorem lc_fm {chk : Sto → Prop} {el : D → Sto → (Option D → Sto → Prop) → Prop} (g : D → Option D) {items : List D} {S : Sto} {Q : List D → Sto → Prop} (hl : items.length ≤ sizeLine) (hc : ∀ S', Le S S' → chk S')
    (hs : ∀ x, x ∈ items → ∀ S' (K : Option D → Sto → Prop), Le S S' → (∀ S'', Le S' S'' → K (g x) S'') → el x S' K) (hd : ∀ S', Le S S' → Q (items.filterMap g) S') : wpLC chk el items [] S Q := by
  refine lc_inv (fun pre acc S' => Le S S' ∧ acc = pre.filterMap g) ⟨Le.refl, rfl⟩ hl (fun _ _ _ h => hc _ h.1) (fun pre x post acc S' K e h hK hN => ?_) (fun acc S' h => by rw [h.2]; exact hd S' h.1)
  refine hs x (by rw [e]; simp) S' K h.1 fun S'' l => ?_
  cases q : g x with
  | some y => exact hK y S'' ⟨h.1.trans l, by rw [List.filterMap_append, h.2]; simp [q]⟩
  | none => exact hN S'' ⟨h.1.trans l, by rw [List.filterMap_append, h.2]; simp [q]⟩
/-- .. that keeps every item -/
theorem lc_map {chk : Sto → Prop} {el : D → Sto → (Option D → Sto → Prop) → Prop} (g : D → D) {items : List D} {S : Sto} {Q : List D → Sto → Prop} (hl : items.length ≤ sizeLine) (hc : ∀ S', Le S S' → chk S')
    (hs : ∀ x, x ∈ items → ∀ S' (K : Option D → Sto → Prop), Le S S' → (∀ S'', Le S' S'' → K (some (g x)) S'') → el x S' K) (hd : ∀ S', Le S S' → Q (items.map g) S') : wpLC chk el items [] S Q :=
  lc_fm (fun x => some (g x)) hl hc hs fun S' l => by rw [List.filterMap_eq_map' ]; exact hd S' l
/-- while, by a word and a measure -/
theorem whl_inv {test : Sl → Sto → (Bool → Sto → Prop) → Prop} {body : En → Sl → Sto → Prop} {N : En} (I : Sl → Sto → Prop) (m : Sl → Sto → Nat) {σ : Sl} {S : Sto} (h0 : I σ S)
    (hs : ∀ σ S (K : Sl → Sto → Prop), I σ S → (∀ σ' S', I σ' S' → m σ' S' < m σ S → K σ' S') → test σ S fun b S1 => if b = true then body { N with nx := K, ct := K, bk := N.nx } σ S1 else N.nx σ S1)
    : wpWhile test body N σ S := by
  refine ⟨fun n σ S => n = m σ S ∧ I σ S, ⟨_, rfl, h0⟩, ?_⟩
  rintro n σ S ⟨rfl, h⟩
  exact hs σ S _ h fun σ' S' h' l => ⟨_, l, rfl, h'⟩
end Mp

namespace Mp
open PySem
/-! ## data -/
theorem Le.get {S S' : Sto} {a : Addr} {o : Ob} (l : Le S S') (h : S a = some o) : S' a = some o := l a o h
mutual
theorem Pd.le {S S' : Sto} (l : Le S S') : ∀ {q : PyData} {d : D}, Pd S d q → Pd S' d q
  | .none, _, h => by cases h; exact .non
  | .bool _, _, h => by cases h; exact .bl _
  | .int _, _, h => by cases h; exact .int _
  | .str _, _, h => by cases h; exact .str _
  | .tuple qs, _, h => by cases h with | tup h => exact .tup (Pds.le l h)
  | .list qs, _, h => by cases h with | lst e h => exact .lst (l _ _ e) (Pds.le l h)
  | .dict _, _, h => by cases h
theorem Pds.le {S S' : Sto} (l : Le S S') : ∀ {qs : List PyData} {ds : List D}, Pds S ds qs → Pds S' ds qs
  | [], _, h => by cases h; exact .nil
  | q :: qs, _, h => by cases h with | cons a b => exact .cons (Pd.le l a) (Pds.le l b)
end
mutual
theorem Pd.det {S : Sto} : ∀ {q q' : PyData} {d : D}, Pd S d q → Pd S d q' → q = q'
  | .none, _, _, h, h' => by cases h; cases h'; rfl
  | .bool _, _, _, h, h' => by cases h; cases h'; rfl
  | .int _, _, _, h, h' => by cases h; cases h'; rfl
  | .str _, _, _, h, h' => by cases h; cases h'; rfl
  | .tuple qs, _, _, h, h' => by cases h with | tup h => cases h' with | tup h' => rw [Pds.det h h']
  | .list qs, _, _, h, h' => by
    cases h with | lst e h => cases h' with | lst e' h' =>
      rw [e] at e'; cases e'; rw [Pds.det h h']
  | .dict _, _, _, h, _ => by cases h
theorem Pds.det {S : Sto} : ∀ {qs qs' : List PyData} {ds : List D}, Pds S ds qs → Pds S ds qs' → qs = qs'
  | [], _, _, h, h' => by cases h; cases h'; rfl
  | q :: qs, _, _, h, h' => by
    cases h with | cons a b => cases h' with | cons a' b' => rw [Pd.det a a', Pds.det b b']
end
theorem Pds.length {S : Sto} : ∀ {ds : List D} {qs : List PyData}, Pds S ds qs → ds.length = qs.length
  | [], _, h => by cases h; rfl
  | d :: ds, _, h => by cases h with | cons a b => simp [Pds.length b]
theorem Pds.get {S : Sto} : ∀ {ds : List D} {qs : List PyData} {i : Nat} {d : D}, Pds S ds qs → ds[i]? = some d → ∃ q, qs[i]? = some q ∧ Pd S d q
  | [], _, _, _, _, e => by simp at e
  | d :: ds, _, 0, _, h, e => by cases h with | cons a b => simp at e; subst e; exact ⟨_, rfl, a⟩
  | d :: ds, _, i + 1, _, h, e => by
    cases h with | cons a b =>
      obtain ⟨q, h1, h2⟩ := Pds.get b (i := i) (by simpa using e)
      exact ⟨q, by simpa using h1, h2⟩
theorem Pds.append {S : Sto} : ∀ {ds es : List D} {ps qs : List PyData}, Pds S ds ps → Pds S es qs → Pds S (ds ++ es) (ps ++ qs)
  | [], _, _, _, h, h' => by cases h; exact h'
  | d :: ds, _, _, _, h, h' => by cases h with | cons a b => exact .cons a (Pds.append b h')
theorem Pds.take {S : Sto} : ∀ {ds : List D} {qs : List PyData} (i : Nat), Pds S ds qs → Pds S (ds.take i) (qs.take i)
  | _, _, 0, _ => by simp; exact .nil
  | [], _, i + 1, h => by cases h; simp; exact .nil
  | d :: ds, _, i + 1, h => by cases h with | cons a b => exact .cons a (Pds.take i b)
theorem Pds.drop {S : Sto} : ∀ {ds : List D} {qs : List PyData} (i : Nat), Pds S ds qs → Pds S (ds.drop i) (qs.drop i)
  | _, _, 0, h => by simpa using h
  | [], _, i + 1, h => by cases h; simp; exact .nil
  | d :: ds, _, i + 1, h => by cases h with | cons a b => exact Pds.drop i b
theorem Pds.set {S : Sto} : ∀ {ds : List D} {qs : List PyData} (i : Nat) {d : D} {q : PyData}, Pds S ds qs → Pd S d q → Pds S (ds.set i d) (qs.set i q)
  | [], _, i, _, _, h, _ => by cases h; exact .nil
  | d :: ds, _, 0, _, _, h, e => by cases h with | cons a b => exact .cons e b
  | d :: ds, _, i + 1, _, _, h, e => by cases h with | cons a b => exact .cons a (Pds.set i b e)
/-! the measures -/
mutual
def fitP (b : Nat) : PyData → Bool
  | .none => true
  | .bool _ => true
  | .int i => decide (i.natAbs ≤ b)
  | .str x => x.cps.all (· < 0x110000)
  | .list xs => fitPs b xs
  | .tuple xs => fitPs b xs
  | .dict _ => false
def fitPs (b : Nat) : List PyData → Bool
  | [] => true
  | x :: xs => fitP b x && fitPs b xs
end
mutual
theorem fitP.mono {b c : Nat} (l : b ≤ c) : ∀ {q : PyData}, fitP b q = true → fitP c q = true
  | .none, _ => rfl
  | .bool _, _ => rfl
  | .int i, h => by simp only [fitP, decide_eq_true_eq] at h ⊢; omega
  | .str _, h => h
  | .list xs, h => by simp only [fitP] at h ⊢; exact fitPs.mono l h
  | .tuple xs, h => by simp only [fitP] at h ⊢; exact fitPs.mono l h
  | .dict _, h => by simp [fitP] at h
theorem fitPs.mono {b c : Nat} (l : b ≤ c) : ∀ {qs : List PyData}, fitPs b qs = true → fitPs c qs = true
  | [], _ => rfl
  | x :: xs, h => by
    simp only [fitPs, Bool.and_eq_true] at h ⊢
    exact ⟨fitP.mono l h.1, fitPs.mono l h.2⟩
end
theorem fitPs_iff {b : Nat} : ∀ {qs : List PyData}, fitPs b qs = true ↔ ∀ q ∈ qs, fitP b q = true
  | [] => by simp [fitPs]
  | x :: xs => by simp [fitPs, fitPs_iff (qs := xs)]
theorem depthAll_le {n : Nat} : ∀ {qs : List PyData}, PyData.depthAll qs ≤ n ↔ ∀ q ∈ qs, q.depth ≤ n
  | [] => by simp [PyData.depthAll]
  | x :: xs => by
    have := depthAll_le (n := n) (qs := xs)
    simp only [PyData.depthAll, List.mem_cons, forall_eq_or_imp, ← this]; omega
theorem weightAll_append : ∀ {ps qs : List PyData}, PyData.weightAll (ps ++ qs) = PyData.weightAll ps + PyData.weightAll qs
  | [], qs => by simp [PyData.weightAll]
  | x :: xs, qs => by simp only [List.cons_append, PyData.weightAll, weightAll_append (ps := xs)]; omega
theorem weightAll_mem : ∀ {qs : List PyData} {q : PyData}, q ∈ qs → q.weight ≤ PyData.weightAll qs
  | x :: xs, q, h => by
    simp only [PyData.weightAll]
    rcases List.mem_cons.mp h with rfl | h
    · omega
    · have := weightAll_mem h; omega
theorem weightAll_sub : ∀ {ps qs : List PyData}, List.Sublist ps qs → PyData.weightAll ps ≤ PyData.weightAll qs
  | _, _, .slnil => Nat.le_refl _
  | _, _, .cons x h => by have := weightAll_sub h; simp only [PyData.weightAll]; omega
  | _, _, .cons₂ x h => by have := weightAll_sub h; simp only [PyData.weightAll]; omega
theorem weightAll_set : ∀ {qs : List PyData} {q : PyData} (i : Nat), PyData.weightAll (qs.set i q) ≤ PyData.weightAll qs + q.weight
  | [], q, i => by simp [PyData.weightAll]
  | x :: xs, q, 0 => by simp only [List.set_cons_zero, PyData.weightAll]; omega
  | x :: xs, q, i + 1 => by have := weightAll_set (qs := xs) (q := q) i; simp only [List.set_cons_succ, PyData.weightAll]; omega
mutual
theorem fit_can {b : Nat} : ∀ {q : PyData}, fitP b q = true → q.canLay0 = true
  | .none, _ => by simp [PyData.canLay0]
  | .bool _, _ => by simp [PyData.canLay0]
  | .int i, h => by simp [PyData.canLay0]
  | .str _, h => by simp only [fitP] at h; simp only [PyData.canLay0]; exact h
  | .list xs, h => by simp only [fitP] at h; simp only [PyData.canLay0]; exact fits_can h
  | .tuple xs, h => by simp only [fitP] at h; simp only [PyData.canLay0]; exact fits_can h
  | .dict _, h => by simp [fitP] at h
theorem fits_can {b : Nat} : ∀ {qs : List PyData}, fitPs b qs = true → PyData.canLayAll0 qs = true
  | [], _ => by simp [PyData.canLayAll0]
  | x :: xs, h => by
    simp only [fitPs, Bool.and_eq_true] at h
    simp only [PyData.canLayAll0, fit_can h.1, fits_can h.2, Bool.and_self]
end
mutual
theorem fit_short {b : Nat} (l : b < 10 ^ 12) : ∀ {q : PyData}, fitP b q = true → q.intsShort 13 = true
  | .none, _ => by simp [PyData.intsShort]
  | .bool _, _ => by simp [PyData.intsShort]
  | .int i, h => by
    simp only [fitP, decide_eq_true_eq] at h
    simp only [PyData.intsShort, decide_eq_true_eq]
    exact PyData.shown_int_le (by omega)
  | .str _, h => by simp [PyData.intsShort]
  | .list xs, h => by simp only [fitP] at h; simp only [PyData.intsShort]; exact fits_short l h
  | .tuple xs, h => by simp only [fitP] at h; simp only [PyData.intsShort]; exact fits_short l h
  | .dict _, h => by simp [fitP] at h
theorem fits_short {b : Nat} (l : b < 10 ^ 12) : ∀ {qs : List PyData}, fitPs b qs = true → PyData.intsShortAll 13 qs = true
  | [], _ => by simp [PyData.intsShortAll]
  | x :: xs, h => by
    simp only [fitPs, Bool.and_eq_true] at h
    simp only [PyData.intsShortAll, fit_short l h.1, fits_short l h.2, Bool.and_self]
end
mutual
theorem fit_show {b : Nat} (l : b < 10 ^ 12) : ∀ {q : PyData}, fitP b q = true → q.showable = true
  | .none, _ => by simp [PyData.showable]
  | .bool _, _ => by simp [PyData.showable]
  | .int i, h => by
    simp only [fitP, decide_eq_true_eq] at h
    simp only [PyData.showable, decide_eq_true_eq]
    exact PySem.Flt.log2_lt_of (by decide) (Nat.lt_of_le_of_lt h (Nat.lt_of_lt_of_le l (by decide)))
  | .str _, h => by simp [PyData.showable]
  | .list xs, h => by simp only [fitP] at h; simp only [PyData.showable]; exact fits_show l h
  | .tuple xs, h => by simp only [fitP] at h; simp only [PyData.showable]; exact fits_show l h
  | .dict _, h => by simp [fitP] at h
theorem fits_show {b : Nat} (l : b < 10 ^ 12) : ∀ {qs : List PyData}, fitPs b qs = true → PyData.showableAll qs = true
  | [], _ => by simp [PyData.showableAll]
  | x :: xs, h => by
    simp only [fitPs, Bool.and_eq_true] at h
    simp only [PyData.showableAll, fit_show l h.1, fits_show l h.2, Bool.and_self]
end
theorem fit_shown {b : Nat} (l : b < 10 ^ 12) {q : PyData} (h : fitP b q = true) (n : q.depth ≤ 40) (m : q.weight ≤ 2 ^ 20) : q.shown.length ≤ sizeLine := by
  have := PyProof.Rows.shown_le13 (d := q) (by unfold PyData.layable0; rw [fit_can h, decide_eq_true (by omega : q.depth ≤ 64), decide_eq_true m]; rfl) (fit_short l h)
  exact Nat.le_trans this (by decide)
/-! data that does not touch the pool -/
def Sto.del (S : Sto) (p : Addr) : Sto := fun b => if b = p then none else S b
theorem del_le {S : Sto} {p : Addr} : Le (S.del p) S := fun b o h => by
  unfold Sto.del at h
  by_cases e : b = p
  · rw [if_pos e] at h; cases h
  · rwa [if_neg e] at h
theorem LeX.del {S S' : Sto} {p : Addr} (l : LeX p S S') : Le (S.del p) (S'.del p) := fun b o h => by
  unfold Sto.del at h ⊢
  by_cases e : b = p
  · rw [if_pos e] at h; cases h
  · rw [if_neg e] at h ⊢; exact l b o e h
/-- what may be told: numbers up to b, depth up to n, weight up to m; p is no part of it -/
def Dat (p : Addr) (S : Sto) (d : D) (b n m : Nat) : Prop := ∃ q, Pd (S.del p) d q ∧ fitP b q = true ∧ q.depth ≤ n ∧ q.weight ≤ m
def Dats (p : Addr) (S : Sto) (ds : List D) (b n m : Nat) : Prop := ∃ qs, Pds (S.del p) ds qs ∧ fitPs b qs = true ∧ PyData.depthAll qs ≤ n ∧ PyData.weightAll qs ≤ m
section
variable {p : Addr} {S S' : Sto} {d : D} {ds es : List D} {b n m b' n' m' : Nat}
theorem Dat.x (h : Dat p S d b n m) (l : LeX p S S') : Dat p S' d b n m := let ⟨q, a, r⟩ := h; ⟨q, a.le l.del, r⟩
theorem Dats.x (h : Dats p S ds b n m) (l : LeX p S S') : Dats p S' ds b n m := let ⟨q, a, r⟩ := h; ⟨q, a.le l.del, r⟩
theorem Dat.w (h : Dat p S d b n m) (hb : b ≤ b') (hn : n ≤ n') (hm : m ≤ m') : Dat p S d b' n' m' := let ⟨q, a, f, x, y⟩ := h; ⟨q, a, fitP.mono hb f, Nat.le_trans x hn, Nat.le_trans y hm⟩
theorem Dats.w (h : Dats p S ds b n m) (hb : b ≤ b') (hn : n ≤ n') (hm : m ≤ m') : Dats p S ds b' n' m' := let ⟨q, a, f, x, y⟩ := h; ⟨q, a, fitPs.mono hb f, Nat.le_trans x hn, Nat.le_trans y hm⟩
theorem Dats.tup (h : Dats p S ds b n m) : Dat p S (.tup ds) b (n + 1) m := let ⟨q, a, f, x, y⟩ := h; ⟨.tuple q, .tup a, by simp only [fitP]; exact f, by simp only [PyData.depth]; omega, by simp only [PyData.weight]; exact y⟩
theorem Dat.un (h : Dat p S (.tup ds) b n m) : ∃ k, n = k + 1 ∧ Dats p S ds b k m := by
  obtain ⟨q, a, f, x, y⟩ := h
  cases a with | tup a =>
    simp only [fitP] at f; simp only [PyData.depth] at x; simp only [PyData.weight] at y
    exact ⟨n - 1, by omega, _, a, f, by omega, y⟩
theorem Dats.lst {a : Addr} (h : Dats p S ds b n m) (ha : S a = none) (np : a ≠ p) : Dat p (S.put a (.lst ds)) (.ref a) b (n + 1) m := by
  obtain ⟨q, e, f, x, y⟩ := h
  exact ⟨.list q, .lst (by unfold Sto.del; rw [if_neg np, put_same]) (e.le (Le.x (Le.put ha)).del), by simp only [fitP]; exact f, by simp only [PyData.depth]; omega, by simp only [PyData.weight]; exact y⟩
theorem Dats.nil : Dats p S [] b n 0 := ⟨[], .nil, rfl, by simp [PyData.depthAll], by simp [PyData.weightAll]⟩
theorem Dats.cons (h : Dat p S d b n m) (h' : Dats p S ds b n m') : Dats p S (d :: ds) b n (m + 1 + m') := by
  obtain ⟨q, e, f, x, y⟩ := h
  obtain ⟨q', e', f', x', y'⟩ := h'
  exact ⟨q :: q', .cons e e', by simp only [fitPs, f, f', Bool.and_self], by simp only [PyData.depthAll]; omega, by simp only [PyData.weightAll]; omega⟩
theorem Dats.append (h : Dats p S ds b n m) (h' : Dats p S es b n m') : Dats p S (ds ++ es) b n (m + m') := by
  obtain ⟨q, e, f, x, y⟩ := h
  obtain ⟨q', e', f', x', y'⟩ := h'
  refine ⟨q ++ q', e.append e', ?_, ?_, by rw [weightAll_append]; omega⟩
  · rw [fitPs_iff] at f f' ⊢
    intro z hz; rcases List.mem_append.mp hz with h | h
    · exact f z h
    · exact f' z h
  · rw [depthAll_le] at x x' ⊢
    intro z hz; rcases List.mem_append.mp hz with h | h
    · exact x z h
    · exact x' z h
theorem Dats.sub {qs rs : List PyData} (s : List.Sublist rs qs) (f : fitPs b qs = true) (x : PyData.depthAll qs ≤ n) (y : PyData.weightAll qs ≤ m) : fitPs b rs = true ∧ PyData.depthAll rs ≤ n ∧ PyData.weightAll rs ≤ m := by
  rw [fitPs_iff] at f ⊢
  rw [depthAll_le] at x ⊢
  exact ⟨fun q h => f q (s.subset h), fun q h => x q (s.subset h), Nat.le_trans (weightAll_sub s) y⟩
theorem Dats.take (i : Nat) (h : Dats p S ds b n m) : Dats p S (ds.take i) b n m := by
  obtain ⟨q, e, f, x, y⟩ := h
  exact ⟨q.take i, e.take i, Dats.sub (List.take_sublist ..) f x y⟩
theorem Dats.drop (i : Nat) (h : Dats p S ds b n m) : Dats p S (ds.drop i) b n m := by
  obtain ⟨q, e, f, x, y⟩ := h
  exact ⟨q.drop i, e.drop i, Dats.sub (List.drop_sublist ..) f x y⟩
theorem Dats.get {i : Nat} (h : Dats p S ds b n m) (hi : ds[i]? = some d) : Dat p S d b n m := by
  obtain ⟨q, e, f, x, y⟩ := h
  obtain ⟨r, hr, hd⟩ := e.get hi
  have hm := List.mem_of_getElem? hr
  exact ⟨r, hd, fitPs_iff.mp f r hm, depthAll_le.mp x r hm, Nat.le_trans (weightAll_mem hm) y⟩
theorem Dats.mem (h : Dats p S ds b n m) (hd : d ∈ ds) : Dat p S d b n m := by
  obtain ⟨i, hi⟩ := List.mem_iff_getElem?.mp hd
  exact h.get hi
theorem Dats.set (i : Nat) (h : Dats p S ds b n m) (h' : Dat p S d b n m') : Dats p S (ds.set i d) b n (m + m') := by
  obtain ⟨q, e, f, x, y⟩ := h
  obtain ⟨r, e', f', x', y'⟩ := h'
  refine ⟨q.set i r, e.set i e', ?_, ?_, Nat.le_trans (weightAll_set i) (by omega)⟩
  · rw [fitPs_iff] at f ⊢
    intro z hz; rcases List.mem_or_eq_of_mem_set hz with h | rfl
    · exact f z h
    · exact f'
  · rw [depthAll_le] at x ⊢
    intro z hz; rcases List.mem_or_eq_of_mem_set hz with h | rfl
    · exact x z h
    · exact x'
theorem Dat.non : Dat p S .non b 0 0 := ⟨_, .non, rfl, Nat.le_refl _, Nat.le_refl _⟩
theorem Dat.bl {c : Bool} : Dat p S (.bl c) b 0 0 := ⟨_, .bl c, rfl, Nat.le_refl _, Nat.le_refl _⟩
theorem Dat.int {i : Int} (h : i.natAbs ≤ b) (hb : b < 2 ^ 40) : Dat p S (.int i) b 0 40 := by
  refine ⟨_, .int i, by simp only [fitP, decide_eq_true h], Nat.le_refl _, ?_⟩
  simp only [PyData.weight]
  split
  · omega
  · have : i.natAbs.log2 < 40 := PySem.Flt.log2_lt_of (by decide) (by omega)
    omega
theorem Dat.int' {i : Int} (h : Dat p S (.int i) b n m) : i.natAbs ≤ b := by
  obtain ⟨q, e, f, _⟩ := h
  cases e
  simpa [fitP] using f
def okS (z : Str) : Bool := z.cps.all (· < 0x110000)
theorem Dat.str {z : Str} (h : okS z = true) (l : z.length ≤ m) : Dat p S (.str z) b 0 m := ⟨_, .str z, h, Nat.le_refl _, l⟩
theorem Dat.str' {z : Str} (h : Dat p S (.str z) b n m) : okS z = true ∧ z.length ≤ m := by
  obtain ⟨q, e, f, _, y⟩ := h
  cases e
  exact ⟨f, y⟩
theorem weightAll_len : ∀ {qs : List PyData}, qs.length ≤ PyData.weightAll qs
  | [] => by simp
  | x :: xs => by have := weightAll_len (qs := xs); simp only [List.length_cons, PyData.weightAll]; omega
theorem Dats.len (h : Dats p S ds b n m) : ds.length ≤ m := by
  obtain ⟨q, e, _, _, y⟩ := h
  rw [e.length]
  exact Nat.le_trans weightAll_len y
theorem Dat.ref {a : Addr} (h : Dat p S (.ref a) b n m) : a ≠ p ∧ ∃ u k, S a = some (.lst u) ∧ n = k + 1 ∧ Dats p S u b k m := by
  obtain ⟨q, e, f, x, y⟩ := h
  cases e with | lst e g =>
    unfold Sto.del at e
    by_cases c : a = p
    · rw [if_pos c] at e; cases e
    · rw [if_neg c] at e
      simp only [fitP] at f; simp only [PyData.depth] at x; simp only [PyData.weight] at y
      exact ⟨c, _, n - 1, e, by omega, _, g, f, by omega, y⟩
/-- repr of it -/
theorem Dat.repr {R : Post} (h : Dat p S d b n m) (hb : b < 10 ^ 12) (hn : n ≤ 40) (hm : m ≤ 2 ^ 20) : ∃ z : Str, ∀ S', LeX p S S' → ∀ R : Post, R (.str z) S' → pB .repr [d] S' R := by
  obtain ⟨q, e, f, x, y⟩ := h
  refine ⟨q.shown, fun S' l R r => ?_⟩
  rw [pB_repr]
  exact ⟨q, (e.le l.del).le del_le, fit_show hb f, by omega, fit_shown hb f (by omega) (by omega), r⟩
end
/-- what a check may look at: a value of data -/
def Dw (S : Sto) (d : D) : Prop := ∃ q, Pd S d q ∧ q.weight ≤ sizeLine
theorem Dat.dw {p : Addr} {S : Sto} {d : D} {b n m : Nat} (h : Dat p S d b n m) (hm : m ≤ sizeLine) : Dw S d := let ⟨q, e, _, _, y⟩ := h; ⟨q, e.le del_le, Nat.le_trans y hm⟩
theorem Dw.le {S S' : Sto} {d : D} (h : Dw S d) (l : Le S S') : Dw S' d := let ⟨q, e, y⟩ := h; ⟨q, e.le l, y⟩
theorem Dw.ref {S : Sto} {a : Addr} (h : Dw S (.ref a)) : ∃ u, S a = some (.lst u) := by
  obtain ⟨q, e, y⟩ := h
  cases e with | lst e g => exact ⟨_, e⟩
theorem Dw.str {S : Sto} {z : Str} (h : Dw S (.str z)) : z.length ≤ sizeLine := by
  obtain ⟨q, e, y⟩ := h
  cases e; exact y
theorem Dw.mem {S : Sto} {ds : List D} {d : D} (h : Dw S (.tup ds)) (hd : d ∈ ds) : Dw S d := by
  obtain ⟨q, e, y⟩ := h
  cases e with | tup e =>
    obtain ⟨i, hi⟩ := List.mem_iff_getElem?.mp hd
    obtain ⟨r, hr, hd⟩ := e.get hi
    simp only [PyData.weight] at y
    exact ⟨r, hd, Nat.le_trans (weightAll_mem (List.mem_of_getElem? hr)) y⟩
theorem Dw.len {S : Sto} {ds : List D} (h : Dw S (.tup ds)) : ds.length ≤ sizeLine := by
  obtain ⟨q, e, y⟩ := h
  cases e with | tup e =>
    simp only [PyData.weight] at y
    rw [e.length]
    exact Nat.le_trans weightAll_len y
/-! ## words -/
section
variable {S : Sto} {R : Bool → Prop}
theorem pIn_sign {c : Nat} {z : Str} : pIn (.str ⟨#[c]⟩) (.str z) S R = R (decide (c ∈ z.cps.toList)) := by
  apply propext
  unfold pIn
  simp only [← PySem.StrLaws.found_one z c]
  exact ⟨fun ⟨u, e, h⟩ => by cases e; exact h, fun h => ⟨_, rfl, h⟩⟩
end
def isLow (c : Nat) : Bool := decide (97 ≤ c) && decide (c ≤ 122)
theorem letters_cps : (PySem.Str.ofString "abcdefghijklmnopqrstuvwxyz").cps.toList = [97, 98, 99, 100, 101, 102, 103, 104, 105, 106, 107, 108, 109, 110, 111, 112, 113, 114, 115, 116, 117, 118, 119, 120, 121, 122] := by decide +kernel
theorem low_iff {c : Nat} : decide (c ∈ (PySem.Str.ofString "abcdefghijklmnopqrstuvwxyz").cps.toList) = isLow c := by
  rw [letters_cps]
  unfold isLow
  rw [Bool.eq_iff_iff]
  simp only [List.mem_cons, List.not_mem_nil, or_false, decide_eq_true_eq, Bool.and_eq_true]
  omega
def wordB (z : Str) : Bool := decide (1 ≤ z.length) && decide (z.length ≤ 12) && z.cps.toList.all isLow
def wordD : D → Bool
  | .str z => wordB z
  | _ => false
theorem wordB_ok {z : Str} (h : wordB z = true) : okS z = true ∧ z.length ≤ 12 := by
  unfold wordB at h
  simp only [Bool.and_eq_true, decide_eq_true_eq, List.all_eq_true] at h
  refine ⟨?_, h.1.2⟩
  unfold okS
  rw [Array.all_eq_true_iff_forall_mem]
  intro c hc
  have := h.2 c (by simpa using hc)
  unfold isLow at this
  simp only [Bool.and_eq_true, decide_eq_true_eq] at this
  simp only [decide_eq_true_eq]; omega
end Mp

namespace Mp
open PySem
/-! ## what comes later stands in a box, so that one walk takes one step -/
structure BoxQ (Q : Post) : Type where
structure BoxN (N : En) : Type where
structure BoxB (b : List Sm) : Type where
structure BoxR (Q : List D → Sto → Prop) : Type where
def kb (Q : Post) (_ : BoxQ Q) : Post := Q
def nb (N : En) (_ : BoxN N) : En := N
def bb (b : List Sm) (_ : BoxB b) : List Sm := b
def rb (Q : List D → Sto → Prop) (_ : BoxR Q) : List D → Sto → Prop := Q
theorem kb_h {Q : Post} {u : BoxQ Q} {d : D} {S : Sto} (h : Q d S) : kb Q u d S := h
theorem rb_h {Q : List D → Sto → Prop} {u : BoxR Q} {d : List D} {S : Sto} (h : Q d S) : rb Q u d S := h
theorem nb_nx {N : En} {u : BoxN N} {σ : Sl} {S : Sto} (h : N.nx σ S) : (nb N u).nx σ S := h
theorem nb_ct {N : En} {u : BoxN N} {σ : Sl} {S : Sto} (h : N.ct σ S) : (nb N u).ct σ S := h
theorem nb_bk {N : En} {u : BoxN N} {σ : Sl} {S : Sto} (h : N.bk σ S) : (nb N u).bk σ S := h
theorem nb_rt {N : En} {u : BoxN N} {d : D} {S : Sto} (h : N.rt d S) : (nb N u).rt d S := h
theorem nb_ex {N : En} {u : BoxN N} {x : Str} {ds : List D} {S : Sto} (h : N.ex x ds S) : (nb N u).ex x ds S := h
theorem bb_h {W : Callee} {G : Str → Option Str} {b : List Sm} {u : BoxB b} {N : En} {σ : Sl} {S : Sto} (h : wpB W G b N σ S) : wpB W G (bb b u) N σ S := h
section
variable {W : Callee} {G : Str → Option Str} {σ : Sl} {S : Sto} {X : XPost} {Q : Post} {N : En}
theorem wpE_callB {f : Str} {es : List E} : wpE W G (.call f es) σ S X Q = wpEs W G es σ S X fun ds S1 => W f ds S1 X (kb Q ⟨⟩) := rfl
theorem wpS_iteB {c : E} {a b : List Sm} : wpS W G (.ite c a b) N σ S = wpE W G c σ S N.ex fun d S1 => ∃ k, d = .bl k ∧ if k = true then wpB W G (bb a ⟨⟩) (nb N ⟨⟩) σ S1 else wpB W G (bb b ⟨⟩) (nb N ⟨⟩) σ S1 := rfl
theorem wpS_loopB {t : Tg} {k : Ik} {it : List E} {b : List Sm} : wpS W G (.loop t k it b) N σ S = wpEs W G it σ S N.ex fun xs S1 => pItK k xs S1 fun items chk => wpFor chk (fun x N' σ' S' => wpTg t x σ' fun σ2 => wpB W G (bb b ⟨⟩) N' σ2 S') items (nb N ⟨⟩) σ S1 := rfl
theorem wpS_whlB {c : E} {b : List Sm} : wpS W G (.whl c b) N σ S = wpWhile (fun σ S Q => wpE W G c σ S N.ex fun d S1 => ∃ k, d = .bl k ∧ Q k S1) (fun N' σ' S' => wpB W G (bb b ⟨⟩) N' σ' S') (nb N ⟨⟩) σ S := rfl
theorem wpE_iteB {c a b : E} : wpE W G (.ite c a b) σ S X Q = wpE W G c σ S X fun x S1 => ∃ k, x = .bl k ∧ if k = true then wpE W G a σ S1 X (kb Q ⟨⟩) else wpE W G b σ S1 X (kb Q ⟨⟩) := rfl
theorem wpE_andB {a b : E} : wpE W G (.and a b) σ S X Q = wpE W G a σ S X fun x S1 => ∃ c, x = .bl c ∧ if c = true then wpE W G b σ S1 X (kb Q ⟨⟩) else kb Q ⟨⟩ (.bl false) S1 := rfl
theorem wpE_orB {a b : E} : wpE W G (.or a b) σ S X Q = wpE W G a σ S X fun x S1 => ∃ c, x = .bl c ∧ if c = true then kb Q ⟨⟩ (.bl true) S1 else wpE W G b σ S1 X (kb Q ⟨⟩) := rfl
theorem wpE_lcB {own : List Nat} {t : Tg} {k : Ik} {it : List E} {c elt : E} : wpE W G (.lc own t k it c elt) σ S X Q = wpEs W G it σ S X fun xs S1 => pItK k xs S1 fun items chk =>
      wpLC chk (fun x S2 R => wpTg t x (wipeD σ own) fun σ2 => wpE W G c σ2 S2 X fun d S3 => ∃ b, d = .bl b ∧ if b = true then wpE W G elt σ2 S3 X (fun y S4 => R (some y) S4) else R none S3) items [] S1
        (rb (fun row S5 => pNew (.lst row) S5 Q) ⟨⟩) := rfl
theorem wpE_lstB {es : List E} : wpE W G (.lst es) σ S X Q = wpEs W G es σ S X fun ds S1 => pNew (.lst ds) S1 (kb Q ⟨⟩) := rfl
theorem wpE_bltB {f : Bt} {es : List E} : wpE W G (.blt f es) σ S X Q = wpEs W G es σ S X fun ds S1 => pB f ds S1 (kb Q ⟨⟩) := rfl
end
end Mp

namespace Mp
open PySem
/-! ## one step at a time: no lemma looks into what comes later -/
structure BoxL (R : Bool → Prop) : Type where
structure BoxT (R : List D → (Sto → Prop) → Prop) : Type where
structure BoxG (R : Sl → Prop) : Type where
structure BoxS (R : Sto → Prop) : Type where
def lb (R : Bool → Prop) (_ : BoxL R) : Bool → Prop := R
def tb (R : List D → (Sto → Prop) → Prop) (_ : BoxT R) : List D → (Sto → Prop) → Prop := R
def sb (R : Sto → Prop) (_ : BoxS R) : Sto → Prop := R
theorem lb_h {R : Bool → Prop} {u : BoxL R} {b : Bool} (h : R b) : lb R u b := h
theorem tb_h {R : List D → (Sto → Prop) → Prop} {u : BoxT R} {l : List D} {c : Sto → Prop} (h : R l c) : tb R u l c := h
theorem sb_h {R : Sto → Prop} {u : BoxS R} {S : Sto} (h : R S) : sb R u S := h
def vat : Sl → Nat → (D → Prop) → Prop
  | some d :: _, 0, R => R d
  | _ :: σ, n + 1, R => vat σ n R
  | _, _, _ => False
theorem vat_0 {d : D} {σ : Sl} {R : D → Prop} : vat (some d :: σ) 0 R = R d := rfl
theorem vat_s {x : Option D} {σ : Sl} {n : Nat} {R : D → Prop} : vat (x :: σ) (n + 1) R = vat σ n R := by cases x <;> rfl
theorem vat_eq : ∀ {σ : Sl} {n : Nat} {R : D → Prop}, vat σ n R = ∃ d, σ[n]? = some (some d) ∧ R d
  | [], n, R => by apply propext; simp [vat]
  | none :: σ, 0, R => by apply propext; simp [vat]
  | some d :: σ, 0, R => by apply propext; simp [vat]
  | x :: σ, n + 1, R => by rw [vat_s, vat_eq]; simp
def bat : D → (Bool → Prop) → Prop
  | .bl c, R => R c
  | _, _ => False
theorem bat_bl {c : Bool} {R : Bool → Prop} : bat (.bl c) R = R c := rfl
theorem bat_eq {d : D} {R : Bool → Prop} : bat d R = ∃ c, d = .bl c ∧ R c := by apply propext; cases d <;> simp [bat]
def iat : D → (Int → Prop) → Prop
  | .int c, R => R c
  | _, _ => False
theorem iat_int {c : Int} {R : Int → Prop} : iat (.int c) R = R c := rfl
theorem iat_eq {d : D} {R : Int → Prop} : iat d R = ∃ c, d = .int c ∧ R c := by apply propext; cases d <;> simp [iat]
def gat : Option Str → (Str → Prop) → Prop
  | some c, R => R c
  | _, _ => False
theorem gat_some {c : Str} {R : Str → Prop} : gat (some c) R = R c := rfl
theorem gat_eq {d : Option Str} {R : Str → Prop} : gat d R = ∃ c, d = some c ∧ R c := by apply propext; cases d <;> simp [gat]
def pat : List D → (Option Int → Prop) → Prop
  | [], R => R none
  | [.int i], R => R (some i)
  | _, _ => False
theorem pat_nil {R : Option Int → Prop} : pat [] R = R none := rfl
theorem pat_int {i : Int} {R : Option Int → Prop} : pat [.int i] R = R (some i) := rfl
theorem pat_eq {l : List D} {R : Option Int → Prop} : pat l R = ∃ c, partOf l = some c ∧ R c := by
  apply propext
  match l with
  | [] => simp [pat, partOf]
  | [d] => cases d <;> simp [pat, partOf]
  | x :: y :: r => cases x <;> simp [pat, partOf]
def sset : Sl → Nat → D → (Sl → Prop) → Prop
  | _ :: σ, 0, d, T => T (some d :: σ)
  | x :: σ, n + 1, d, T => sset σ n d fun σ' => T (x :: σ')
  | [], _, _, T => T []
theorem sset_0 {x : Option D} {d : D} {σ : Sl} {T : Sl → Prop} : sset (x :: σ) 0 d T = T (some d :: σ) := rfl
theorem sset_s {x : Option D} {d : D} {σ : Sl} {n : Nat} {T : Sl → Prop} : sset (x :: σ) (n + 1) d T = sset σ n d fun σ' => T (x :: σ') := rfl
theorem sset_eq : ∀ {σ : Sl} {n : Nat} {d : D} {T : Sl → Prop}, sset σ n d T = T (σ.set n (some d))
  | [], n, d, T => by simp [sset]
  | x :: σ, 0, d, T => rfl
  | x :: σ, n + 1, d, T => by rw [sset_s, sset_eq]; rfl
def setK : List Nat → List D → Sl → (Sl → Prop) → Prop
  | i :: is, x :: xs, σ, T => sset σ i x fun σ' => setK is xs σ' T
  | _, _, σ, T => T σ
theorem setK_cons {i : Nat} {is : List Nat} {x : D} {xs : List D} {σ : Sl} {T : Sl → Prop} : setK (i :: is) (x :: xs) σ T = sset σ i x fun σ' => setK is xs σ' T := rfl
theorem setK_nil {xs : List D} {σ : Sl} {T : Sl → Prop} : setK [] xs σ T = T σ := rfl
theorem setK_eq : ∀ {is : List Nat} {xs : List D} {σ : Sl} {T : Sl → Prop}, setK is xs σ T = T (setAll is xs σ)
  | [], xs, σ, T => by cases xs <;> rfl
  | i :: is, [], σ, T => rfl
  | i :: is, x :: xs, σ, T => by rw [setK_cons, sset_eq, setK_eq]; rfl
section
variable {W : Callee} {G : Str → Option Str} {σ : Sl} {S : Sto} {X : XPost} {Q : Post} {N : En}
def loopB (W : Callee) (G : Str → Option Str) (t : Tg) (b : List Sm) : D → En → Sl → Sto → Prop := fun x N σ S => wpTg t x σ fun σ2 => wpB W G b N σ2 S
def testB (W : Callee) (G : Str → Option Str) (c : E) (X : XPost) : Sl → Sto → (Bool → Sto → Prop) → Prop := fun σ S Q => wpE W G c σ S X fun d S1 => bat d fun k => Q k S1
def bodyB (W : Callee) (G : Str → Option Str) (b : List Sm) : En → Sl → Sto → Prop := fun N σ S => wpB W G b N σ S
def elB (W : Callee) (G : Str → Option Str) (t : Tg) (σ : Sl) (c elt : E) (X : XPost) : D → Sto → (Option D → Sto → Prop) → Prop := fun x S2 R => wpTg t x σ fun σ2 => wpE W G c σ2 S2 X fun d S3 => bat d fun b => if b = true then wpE W G elt σ2 S3 X (fun y S4 => R (some y) S4) else R none S3
theorem loopB_h {t : Tg} {b : List Sm} {x : D} (h : wpTg t x σ fun σ2 => wpB W G b N σ2 S) : loopB W G t b x N σ S := h
theorem testB_h {c : E} {R : Bool → Sto → Prop} (h : wpE W G c σ S X fun d S1 => bat d fun k => R k S1) : testB W G c X σ S R := h
theorem bodyB_h {b : List Sm} (h : wpB W G b N σ S) : bodyB W G b N σ S := h
theorem elB_h {t : Tg} {c elt : E} {x : D} {R : Option D → Sto → Prop} (h : wpTg t x σ fun σ2 => wpE W G c σ2 S X fun d S3 => bat d fun b => if b = true then wpE W G elt σ2 S3 X (fun y S4 => R (some y) S4) else R none S3) : elB W G t σ c elt X x S R := h
theorem z_non : wpE W G .non σ S X Q = Q .non S := rfl
theorem z_bl {b : Bool} : wpE W G (.bl b) σ S X Q = Q (.bl b) S := rfl
theorem z_int {b : Int} : wpE W G (.int b) σ S X Q = Q (.int b) S := rfl
theorem z_str {b : Str} : wpE W G (.str b) σ S X Q = Q (.str b) S := rfl
theorem z_v {i : Nat} : wpE W G (.v i) σ S X Q = vat σ i fun d => Q d S := by rw [vat_eq]; rfl
theorem z_g {x : Str} : wpE W G (.g x) σ S X Q = gat (G x) fun z => Q (.str z) S := by rw [gat_eq]; rfl
theorem z_tup {es : List E} : wpE W G (.tup es) σ S X Q = wpEs W G es σ S X fun ds S1 => Q (.tup ds) S1 := rfl
theorem z_lst {es : List E} : wpE W G (.lst es) σ S X Q = wpEs W G es σ S X fun ds S1 => pNew (.lst ds) S1 (kb Q ⟨⟩) := rfl
theorem z_dnew : wpE W G .dnew σ S X Q = pNew (.dic []) S (kb Q ⟨⟩) := rfl
theorem z_bin {o : Operator} {a b : E} : wpE W G (.bin o a b) σ S X Q = wpE W G a σ S X fun x S1 => wpE W G b σ S1 X fun y S2 => pBin o x y S2 Q := rfl
theorem z_neg {a : E} : wpE W G (.neg a) σ S X Q = wpE W G a σ S X fun x S1 => iat x fun i => Q (.int (-i)) S1 := by
  show wpE W G a σ S X _ = _
  congr 1; funext x S1; rw [iat_eq]
theorem z_not {a : E} : wpE W G (.not a) σ S X Q = wpE W G a σ S X fun x S1 => bat x fun c => Q (.bl (!c)) S1 := by
  show wpE W G a σ S X _ = _
  congr 1; funext x S1; rw [bat_eq]
theorem z_and {a b : E} : wpE W G (.and a b) σ S X Q = wpE W G a σ S X fun x S1 => bat x fun c => if c = true then wpE W G b σ S1 X (kb Q ⟨⟩) else kb Q ⟨⟩ (.bl false) S1 := by
  show wpE W G a σ S X _ = _
  congr 1; funext x S1; rw [bat_eq]; rfl
theorem z_or {a b : E} : wpE W G (.or a b) σ S X Q = wpE W G a σ S X fun x S1 => bat x fun c => if c = true then kb Q ⟨⟩ (.bl true) S1 else wpE W G b σ S1 X (kb Q ⟨⟩) := by
  show wpE W G a σ S X _ = _
  congr 1; funext x S1; rw [bat_eq]; rfl
theorem z_tru {a : E} : wpE W G (.tru a) σ S X Q = wpE W G a σ S X fun x S1 => pTru x S1 fun b => Q (.bl b) S1 := rfl
theorem z_cmp {o : CmpOp} {a b : E} : wpE W G (.cmp o a b) σ S X Q = wpE W G a σ S X fun x S1 => wpE W G b σ S1 X fun y S2 => pCmp o x y S2 fun c => Q (.bl c) S2 := rfl
theorem z_cmp2 {o p : CmpOp} {a b c : E} : wpE W G (.cmp2 o p a b c) σ S X Q = wpE W G a σ S X fun x S1 => wpE W G b σ S1 X fun y S2 => pCmp o x y S2 fun k =>
      if k = true then wpE W G c σ S2 X fun z S3 => pCmp p y z S3 fun k' => (kb Q ⟨⟩) (.bl k') S3 else kb Q ⟨⟩ (.bl false) S2 := rfl
theorem z_ite {c a b : E} : wpE W G (.ite c a b) σ S X Q = wpE W G c σ S X fun x S1 => bat x fun k => if k = true then wpE W G a σ S1 X (kb Q ⟨⟩) else wpE W G b σ S1 X (kb Q ⟨⟩) := by
  show wpE W G c σ S X _ = _
  congr 1; funext x S1; rw [bat_eq]; rfl
theorem z_call {f : Str} {es : List E} : wpE W G (.call f es) σ S X Q = wpEs W G es σ S X fun ds S1 => W f ds S1 X (kb Q ⟨⟩) := rfl
theorem z_blt {f : Bt} {es : List E} : wpE W G (.blt f es) σ S X Q = wpEs W G es σ S X fun ds S1 => pB f ds S1 Q := rfl
theorem z_isi {a : E} {t : Ty} : wpE W G (.isi a t) σ S X Q = wpE W G a σ S X fun x S1 => pIsi x t S1 fun b => Q (.bl b) S1 := rfl
theorem z_mth {m : Mt} {o : E} {es : List E} : wpE W G (.mth m o es) σ S X Q = wpE W G o σ S X fun x S1 => mTy m x S1 ∧ wpEs W G es σ S1 X fun ds S2 => pM m x ds S2 (kb Q ⟨⟩) := rfl
theorem z_ix {a i : E} : wpE W G (.ix a i) σ S X Q = wpE W G a σ S X fun x S1 => wpE W G i σ S1 X fun y S2 => pIx x y S2 (kb Q ⟨⟩) := rfl
theorem z_sl {a : E} {lo hi : List E} : wpE W G (.sl a lo hi) σ S X Q = wpE W G a σ S X fun x S1 => wpEs W G lo σ S1 X fun l S2 => pat l fun i => wpEs W G hi σ S2 X fun h S3 => pat h fun j => pSl x i j S3 (kb Q ⟨⟩) := by
  show wpE W G a σ S X _ = _
  congr 1; funext x S1; congr 1; funext l S2; rw [pat_eq]
  congr 1; funext i; congr 1; congr 1; funext h S3; rw [pat_eq]; rfl
theorem z_lc {own : List Nat} {t : Tg} {k : Ik} {it : List E} {c elt : E} : wpE W G (.lc own t k it c elt) σ S X Q = wpEs W G it σ S X fun xs S1 => pItK k xs S1 fun items chk =>
      wpLC chk (elB W G t (wipeD σ own) c elt X) items [] S1 (rb (fun row S5 => pNew (.lst row) S5 (kb Q ⟨⟩)) ⟨⟩) := by
  have e : elB W G t (wipeD σ own) c elt X =
      (fun x S2 (R : Option D → Sto → Prop) => wpTg t x (wipeD σ own) fun σ2 => wpE W G c σ2 S2 X fun d S3 => ∃ b, d = .bl b ∧ if b = true then wpE W G elt σ2 S3 X (fun y S4 => R (some y) S4) else R none S3) := by
    unfold elB; funext x S2 R; congr 1; funext σ2; congr 1; funext d S3; rw [bat_eq]
  rw [e]; rfl
theorem zs_nil {Q : List D → Sto → Prop} : wpEs W G [] σ S X Q = Q [] S := rfl
theorem zs_cons {e : E} {es : List E} {Q : List D → Sto → Prop} : wpEs W G (e :: es) σ S X Q = wpE W G e σ S X fun d S1 => wpEs W G es σ S1 X fun ds S2 => Q (d :: ds) S2 := rfl
theorem zb_nil : wpB W G [] N σ S = N.nx σ S := rfl
theorem zb_cons {s : Sm} {r : List Sm} : wpB W G (s :: r) N σ S = wpS W G s { N with nx := wpB W G r N } σ S := rfl
theorem y_asg {t : Tg} {e : E} : wpS W G (.asg t e) N σ S = wpE W G e σ S N.ex fun d S1 => wpTg t d σ fun σ1 => N.nx σ1 S1 := rfl
theorem y_set {o i e : E} : wpS W G (.set o i e) N σ S = wpE W G e σ S N.ex fun d S1 => wpE W G o σ S1 N.ex fun x S2 => wpE W G i σ S2 N.ex fun y S3 => pSet x y d S3 fun S4 => N.nx σ S4 := rfl
theorem y_aug {i : Nat} {o : Operator} {e : E} : wpS W G (.aug i o e) N σ S = vat σ i fun x => wpE W G e σ S N.ex fun y S1 => pAug o x y fun d => sset σ i d fun σ' => N.nx σ' S1 := by
  rw [vat_eq]; simp only [sset_eq]; rfl
theorem y_ex {e : E} : wpS W G (.ex e) N σ S = wpE W G e σ S N.ex fun _ S1 => N.nx σ S1 := rfl
theorem y_ret {e : E} : wpS W G (.ret e) N σ S = wpE W G e σ S N.ex N.rt := rfl
theorem y_retN : wpS W G .retN N σ S = N.rt .non S := rfl
theorem y_ite {c : E} {a b : List Sm} : wpS W G (.ite c a b) N σ S = wpE W G c σ S N.ex fun d S1 => bat d fun k => if k = true then wpB W G (bb a ⟨⟩) (nb N ⟨⟩) σ S1 else wpB W G (bb b ⟨⟩) (nb N ⟨⟩) σ S1 := by
  show wpE W G c σ S N.ex _ = _
  congr 1; funext d S1; rw [bat_eq]; rfl
theorem y_loop {t : Tg} {k : Ik} {it : List E} {b : List Sm} : wpS W G (.loop t k it b) N σ S = wpEs W G it σ S N.ex fun xs S1 => pItK k xs S1 fun items chk => wpFor chk (loopB W G t b) items (nb N ⟨⟩) σ S1 := rfl
theorem y_whl {c : E} {b : List Sm} : wpS W G (.whl c b) N σ S = wpWhile (testB W G c N.ex) (bodyB W G b) (nb N ⟨⟩) σ S := by
  have e : testB W G c N.ex = (fun (σ : Sl) (S : Sto) (Q : Bool → Sto → Prop) => wpE W G c σ S N.ex fun d S1 => ∃ k, d = .bl k ∧ Q k S1) := by
    unfold testB; funext σ S Q; congr 1; funext d S1; rw [bat_eq]
  rw [e]; rfl
theorem y_brk : wpS W G .brk N σ S = N.bk σ S := rfl
theorem y_cnt : wpS W G .cnt N σ S = N.ct σ S := rfl
theorem y_pass : wpS W G .pass N σ S = N.nx σ S := rfl
theorem tg_one {i : Nat} {x : D} {T : Sl → Prop} : wpTg (.one i) x σ T = sset σ i x T := by rw [sset_eq]; rfl
theorem tg_tup {is : List Nat} {xs : List D} {T : Sl → Prop} : wpTg (.tup is) (.tup xs) σ T = (xs.length = is.length ∧ setK is xs σ T) := by rw [setK_eq]; rfl
end
section
variable {S : Sto} {Q : Post} {R : Bool → Prop}
/-! what hangs on an address: boxed -/
theorem r_ix {a : Addr} {i : Int} : pIx (.ref a) (.int i) S Q = ixO (S a) i S (kb Q ⟨⟩) := pIx_ref
theorem r_set {a : Addr} {i : Int} {y : D} {T : Sto → Prop} : pSet (.ref a) (.int i) y S T = setO (S a) a i y S (sb T ⟨⟩) := pSet_ref
theorem r_len {a : Addr} : pLen (.ref a) S Q = lenO (S a) S (kb Q ⟨⟩) := pLen_ref
theorem r_sl {a : Addr} {lo hi : Option Int} : pSl (.ref a) lo hi S Q = slO (S a) lo hi S (kb Q ⟨⟩) := pSl_ref
theorem r_isi {a : Addr} {t : Ty} : pIsi (.ref a) t S R = isiO (S a) t (lb R ⟨⟩) := pIsi_ref
theorem r_tru {a : Addr} : pTru (.ref a) S R = truO (S a) (lb R ⟨⟩) := pTru_ref
theorem r_it {a : Addr} {T : List D → (Sto → Prop) → Prop} : pItK .val [.ref a] S T = itO (S a) a (tb T ⟨⟩) := pItK_ref
theorem r_add {a b : Addr} : pAdd (.ref a) (.ref b) S Q = addO (S a) (S b) S (kb Q ⟨⟩) := pAdd_ref
theorem r_app {a : Addr} {y : D} : pM .append (.ref a) [y] S Q = appO (S a) a y S (kb Q ⟨⟩) := pM_app
theorem r_ext {a b : Addr} : pM .extend (.ref a) [.ref b] S Q = extO (S a) (S b) a S (kb Q ⟨⟩) := pM_ext
theorem r_any {a : Addr} : pB .any [.ref a] S Q = boolsO (S a) (fun bs => bs.any id) S (kb Q ⟨⟩) := pB_anyr
theorem r_all {a : Addr} : pB .all [.ref a] S Q = boolsO (S a) (fun bs => bs.all id) S (kb Q ⟨⟩) := pB_allr
theorem r_sum {a : Addr} : pB .sum [.ref a] S Q = sumO (S a) S (kb Q ⟨⟩) := pB_sumr
theorem r_tuple {x : D} : pB .tuple [x] S Q = ∃ u, seqOf x S = some u ∧ kb Q ⟨⟩ (.tup u) S := pB_tuple
theorem r_list {x : D} : pB .list [x] S Q = ∃ u, seqOf x S = some u ∧ pNew (.lst u) S (kb Q ⟨⟩) := pB_list
theorem r_ixt {u : List D} {i : Int} : pIx (.tup u) (.int i) S Q = ∃ d, L2.atI u i = some d ∧ kb Q ⟨⟩ d S := pIx_tup
theorem r_ixs {z : Str} {i : Int} : pIx (.str z) (.int i) S Q = ∃ c, z.length ≤ sizeLine ∧ L2.atI z.cps.toList i = some c ∧ kb Q ⟨⟩ (.str ⟨#[c]⟩) S := pIx_str
theorem r_addt {u v : List D} : pAdd (.tup u) (.tup v) S Q = (u.length + v.length ≤ sizeLine ∧ kb Q ⟨⟩ (.tup (u ++ v)) S) := pAdd_tup
theorem r_adds {u v : Str} : pAdd (.str u) (.str v) S Q = (u.length + v.length ≤ sizeLine ∧ kb Q ⟨⟩ (.str (u ++ v)) S) := pAdd_str
theorem r_mul {i j : Int} : pMul (.int i) (.int j) S Q = ((i.natAbs.log2 + j.natAbs.log2 < 1000000 ∨ L2.CMul i j) ∧ kb Q ⟨⟩ (.int (i * j)) S) := pMul_int
theorem r_mult {u : List D} {j : Int} : pMul (.tup u) (.int j) S Q = (u ≠ [] ∧ 2 ≤ j ∧ j ≤ 1000 ∧ u.length ≤ 1000 ∧ kb Q ⟨⟩ (.tup (List.replicate j.toNat u).flatten) S) := rfl
theorem r_mod {i j : Int} : pBin .Mod (.int i) (.int j) S Q = (0 < j ∧ kb Q ⟨⟩ (.int (i % j)) S) := pBin_mod
theorem r_div {i j : Int} : pBin .FloorDiv (.int i) (.int j) S Q = ((0 < j ∧ j.natAbs.log2 < 9000) ∧ kb Q ⟨⟩ (.int (i / j)) S) := pBin_div
theorem r_pow {i j : Int} : pBin .Pow (.int i) (.int j) S Q = ((0 ≤ j ∧ j ≤ 1000000 ∧ i.natAbs < 2 ^ 64) ∧ kb Q ⟨⟩ (.int (i ^ j.toNat)) S) := pBin_pow
theorem r_lens {u : Str} : pLen (.str u) S Q = (u.length ≤ sizeLine ∧ kb Q ⟨⟩ (.int u.length) S) := pLen_str
theorem r_sls {z : Str} {lo hi : Option Int} : pSl (.str z) lo hi S Q = (z.length ≤ sizeLine ∧ kb Q ⟨⟩ (.str (L2.cutS z lo hi)) S) := pSl_str
theorem r_r1 {j : Int} {T : List D → (Sto → Prop) → Prop} : pItK .rng [.int j] S T = (small j ∧ tb T ⟨⟩ (rgOf 0 j) fun _ => True) := pItK_r1
theorem r_r2 {i j : Int} {T : List D → (Sto → Prop) → Prop} : pItK .rng [.int i, .int j] S T = ((small i ∧ small j) ∧ tb T ⟨⟩ (rgOf i j) fun _ => True) := pItK_r2
theorem r_strb {i : Int} : pB .str [.int i] S Q = (i.natAbs.log2 < 1920 ∧ kb Q ⟨⟩ (.str (toString i)) S) := pB_str
theorem r_repr {x : D} : pB .repr [x] S Q = pB .repr [x] S (kb Q ⟨⟩) := rfl
end
end Mp

namespace Mp
open PySem
theorem lm {α : Type} {p : α → Prop} {a : α} {l : List α} (h : p a) (t : ∀ x ∈ l, p x) : ∀ x ∈ a :: l, p x := List.forall_mem_cons.mpr ⟨h, t⟩
theorem ln {α : Type} {p : α → Prop} : ∀ x ∈ ([] : List α), p x := fun _ z => nomatch z
theorem mem_of_lookup {α β : Type} [DecidableEq α] : ∀ {l : List (α × β)} {a : α} {b : β}, l.lookup a = some b → (a, b) ∈ l
  | [], _, _, h => by cases h
  | (c, d) :: r, a, b, h => by
    rw [List.lookup_cons] at h
    by_cases e : a = c
    · subst e; simp only [beq_self_eq_true] at h; cases h; exact List.mem_cons_self ..
    · rw [beq_eq_false_iff_ne.mpr e] at h; exact List.mem_cons_of_mem _ (mem_of_lookup h)
def fn_is_variable : Fn := ⟨1, 1, [.ret (.and (.isi (.v 0) .int) (.and (.not (.tru (.isi (.v 0) .bool))) (.cmp .GtE (.v 0) (.int 0))))]⟩
def nm_is_variable : List PySem.Str := [(PySem.Str.ofString "value")]
def fn_arity_of : Fn := ⟨2, 4, [.loop (.tup [3, 2]) .val [(.v 0)] [.ite (.cmp .Eq (.v 3) (.v 1)) [.ret (.v 2)] []], .ret .non]⟩
def nm_arity_of : List PySem.Str := [(PySem.Str.ofString "constructors"), (PySem.Str.ofString "word"), (PySem.Str.ofString "arity"), (PySem.Str.ofString "name")]
def fn_is_term : Fn := ⟨2, 3, [.ite (.not (.tru (.isi (.v 1) .tuple))) [.ret (.call (PySem.Str.ofString "is_variable") [(.v 1)])] [], .ite (.or (.cmp .Eq (.blt .len [(.v 1)]) (.int 0)) (.or (.not (.tru (.isi (.ix (.v 1) (.int 0)) .str))) (.cmp .NotEq (.call (PySem.Str.ofString "arity_of") [(.v 0), (.ix (.v 1) (.int 0))]) (.bin .Sub (.blt .len [(.v 1)]) (.int 1))))) [.ret (.bl false)] [], .ret (.blt .all [(.lc [2] (.one 2) .val [(.sl (.v 1) [(.int 1)] [])] (.bl true) (.call (PySem.Str.ofString "is_term") [(.v 0), (.v 2)]))])]⟩
def nm_is_term : List PySem.Str := [(PySem.Str.ofString "constructors"), (PySem.Str.ofString "value"), (PySem.Str.ofString "part")]
def fn_is_closed_term : Fn := ⟨2, 2, [.ret (.and (.call (PySem.Str.ofString "is_term") [(.v 0), (.v 1)]) (.cmp .Eq (.call (PySem.Str.ofString "occurrences") [(.v 1)]) (.lst [])))]⟩
def nm_is_closed_term : List PySem.Str := [(PySem.Str.ofString "constructors"), (PySem.Str.ofString "value")]
def fn_occurrences : Fn := ⟨1, 3, [.ite (.tru (.isi (.v 0) .int)) [.ret (.lst [(.v 0)])] [], .asg (.one 1) (.lst []), .loop (.one 2) .val [(.sl (.v 0) [(.int 1)] [])] [.ex (.mth .extend (.v 1) [(.call (PySem.Str.ofString "occurrences") [(.v 2)])])], .ret (.v 1)]⟩
def nm_occurrences : List PySem.Str := [(PySem.Str.ofString "term"), (PySem.Str.ofString "found"), (PySem.Str.ofString "part")]
def fn__law_same : Fn := ⟨2, 3, [.ite (.or (.tru (.isi (.v 1) .tuple)) (.tru (.isi (.v 1) .list))) [.ite (.or (.cmp .NotEq (.isi (.v 1) .tuple) (.isi (.v 0) .tuple)) (.or (.cmp .NotEq (.isi (.v 1) .list) (.isi (.v 0) .list)) (.cmp .NotEq (.blt .len [(.v 0)]) (.blt .len [(.v 1)])))) [.ret (.bl false)] [], .ret (.cmp .Eq (.blt .len [(.lc [2] (.one 2) .rng [(.blt .len [(.v 1)])] (.not (.tru (.call (PySem.Str.ofString "_law_same") [(.ix (.v 0) (.v 2)), (.ix (.v 1) (.v 2))]))) (.v 2))]) (.int 0))] [], .ite (.cmp .Is (.v 1) .non) [.ret (.cmp .Is (.v 0) .non)] [], .ite (.or (.tru (.isi (.v 1) .bool)) (.tru (.isi (.v 0) .bool))) [.ret (.and (.isi (.v 1) .bool) (.and (.isi (.v 0) .bool) (.cmp .Eq (.v 0) (.v 1))))] [], .ite (.tru (.isi (.v 1) .int)) [.ret (.and (.isi (.v 0) .int) (.cmp .Eq (.v 0) (.v 1)))] [], .ret (.and (.isi (.v 0) .str) (.cmp .Eq (.v 0) (.v 1)))]⟩
def nm__law_same : List PySem.Str := [(PySem.Str.ofString "actual"), (PySem.Str.ofString "due"), (PySem.Str.ofString "k")]
def fn__law_is_integer : Fn := ⟨1, 1, [.ret (.and (.isi (.v 0) .int) (.not (.tru (.isi (.v 0) .bool))))]⟩
def nm__law_is_integer : List PySem.Str := [(PySem.Str.ofString "actual")]
def fn__law_pool : Fn := ⟨1, 3, [.asg (.one 1) (.int 7), .loop (.one 2) .val [(.sl (.v 0) [] [(.int 63)])] [.asg (.one 1) (.bin .Mod (.blt .int [(.bin .Add (.bin .Mult (.v 1) (.int 31)) (.v 2))]) (.int 1000003))], .ret (.lst [(.blt .list [(.v 0)]), (.int 0), (.int 0), (.int 0), (.v 1)])]⟩
def nm__law_pool : List PySem.Str := [(PySem.Str.ofString "script"), (PySem.Str.ofString "salt"), (PySem.Str.ofString "cell")]
def fn__law_spread : Fn := ⟨1, 4, [.asg (.one 1) (.bin .Mod (.blt .int [(.v 0)]) (.int 2147483647)), .asg (.one 2) (.int 1), .loop (.one 3) .rng [(.int 4)] [.asg (.one 1) (.bin .Mod (.blt .int [(.bin .Add (.bin .Add (.bin .Mult (.v 1) (.int 48271)) (.int 12345)) (.v 3))]) (.int 2147483647)), .asg (.one 2) (.bin .Add (.bin .Mult (.v 2) (.int 2147483647)) (.v 1))], .ret (.v 2)]⟩
def nm__law_spread : List PySem.Str := [(PySem.Str.ofString "cell"), (PySem.Str.ofString "mixed"), (PySem.Str.ofString "total"), (PySem.Str.ofString "k")]
def fn__law_draw : Fn := ⟨2, 5, [.ite (.and (.cmp .LtE (.ix (.v 0) (.int 2)) (.int 0)) (.cmp .Lt (.ix (.v 0) (.int 1)) (.blt .len [(.ix (.v 0) (.int 0))]))) [.asg (.one 2) (.ix (.ix (.v 0) (.int 0)) (.ix (.v 0) (.int 1))), .set (.v 0) (.int 1) (.bin .Add (.ix (.v 0) (.int 1)) (.int 1)), .set (.v 0) (.int 2) (.v 2), .ite (.cmp .Lt (.v 2) (.int 1000000000000000000)) [.set (.v 0) (.int 2) (.call (PySem.Str.ofString "_law_spread") [(.v 2)])] []] [], .set (.v 0) (.int 3) (.bin .Add (.ix (.v 0) (.int 3)) (.int 1)), .ite (.cmp .LtE (.ix (.v 0) (.int 2)) (.int 0)) [.asg (.one 3) (.bin .Mod (.blt .int [(.bin .Add (.bin .Add (.bin .Mult (.ix (.v 0) (.int 4)) (.int 48271)) (.bin .Mult (.ix (.v 0) (.int 3)) (.int 69621))) (.int 1))]) (.int 2147483647)), .asg (.one 3) (.bin .Mod (.blt .int [(.bin .Add (.bin .Mult (.v 3) (.int 16807)) (.ix (.v 0) (.int 3)))]) (.int 2147483629)), .ret (.bin .Mod (.bin .FloorDiv (.v 3) (.int 5)) (.v 1))] [], .asg (.one 4) (.bin .Mod (.blt .int [(.ix (.v 0) (.int 2))]) (.v 1)), .set (.v 0) (.int 2) (.bin .FloorDiv (.ix (.v 0) (.int 2)) (.v 1)), .ret (.v 4)]⟩
def nm__law_draw : List PySem.Str := [(PySem.Str.ofString "pool"), (PySem.Str.ofString "many"), (PySem.Str.ofString "cell"), (PySem.Str.ofString "mixed"), (PySem.Str.ofString "value")]
def fn__law_pick : Fn := ⟨2, 2, [.ret (.ix (.v 1) (.call (PySem.Str.ofString "_law_draw") [(.v 0), (.blt .len [(.v 1)])]))]⟩
def nm__law_pick : List PySem.Str := [(PySem.Str.ofString "pool"), (PySem.Str.ofString "items")]
def fn__law_bent : Fn := ⟨2, 6, [.ite (.and (.tru (.isi (.v 1) .tuple)) (.and (.cmp .Gt (.blt .len [(.v 1)]) (.int 0)) (.cmp .Gt (.call (PySem.Str.ofString "_law_draw") [(.v 0), (.int 3)]) (.int 0)))) [.asg (.one 2) (.call (PySem.Str.ofString "_law_draw") [(.v 0), (.blt .len [(.v 1)])]), .ret (.bin .Add (.bin .Add (.sl (.v 1) [] [(.v 2)]) (.tup [(.call (PySem.Str.ofString "_law_bent") [(.v 0), (.ix (.v 1) (.v 2))])])) (.sl (.v 1) [(.bin .Add (.v 2) (.int 1))] []))] [], .asg (.one 3) (.call (PySem.Str.ofString "_law_draw") [(.v 0), (.int 9)]), .ite (.cmp .Eq (.v 3) (.int 0)) [.ret (.ix (.tup [(.str (PySem.Str.ofString "x")), (.bl true), (.tup []), (.int 0), (.neg (.int 1)), .non, (.bl false), (.lst [])]) (.call (PySem.Str.ofString "_law_draw") [(.v 0), (.int 8)]))] [], .ite (.tru (.call (PySem.Str.ofString "_law_is_integer") [(.v 1)])) [.ret (.bin .Add (.v 1) (.ix (.tup [(.int 1), (.neg (.int 1)), (.int 2), (.int 0)]) (.call (PySem.Str.ofString "_law_draw") [(.v 0), (.int 4)])))] [], .ite (.tru (.isi (.v 1) .str)) [.ret (.ix (.tup [(.bin .Add (.v 1) (.str (PySem.Str.ofString "a"))), (.sl (.v 1) [(.int 1)] []), (.bin .Add (.v 1) (.str (PySem.Str.ofString "A"))), (.bin .Add (.v 1) (.str (PySem.Str.ofString " "))), (.sl (.v 1) [] [(.int 1)])]) (.call (PySem.Str.ofString "_law_draw") [(.v 0), (.int 5)]))] [], .ite (.or (.not (.tru (.isi (.v 1) .tuple))) (.cmp .Eq (.blt .len [(.v 1)]) (.int 0))) [.ret (.ite (.cmp .Lt (.v 3) (.int 5)) (.tup [(.v 1), (.int 0)]) (.tup []))] [], .asg (.one 2) (.call (PySem.Str.ofString "_law_draw") [(.v 0), (.blt .len [(.v 1)])]), .ite (.cmp .Lt (.v 3) (.int 3)) [.ret (.bin .Add (.sl (.v 1) [] [(.v 2)]) (.sl (.v 1) [(.bin .Add (.v 2) (.int 1))] []))] [], .ite (.cmp .Lt (.v 3) (.int 5)) [.ret (.bin .Add (.bin .Add (.sl (.v 1) [] [(.v 2)]) (.tup [(.ix (.v 1) (.v 2))])) (.sl (.v 1) [(.v 2)] []))] [], .ite (.cmp .Eq (.v 3) (.int 5)) [.ret (.blt .list [(.v 1)])] [], .asg (.one 4) (.call (PySem.Str.ofString "_law_draw") [(.v 0), (.blt .len [(.v 1)])]), .asg (.one 5) (.blt .list [(.v 1)]), .set (.v 5) (.v 2) (.ix (.v 1) (.v 4)), .set (.v 5) (.v 4) (.ix (.v 1) (.v 2)), .ret (.blt .tuple [(.v 5)])]⟩
def nm__law_bent : List PySem.Str := [(PySem.Str.ofString "pool"), (PySem.Str.ofString "value"), (PySem.Str.ofString "at"), (PySem.Str.ofString "turn"), (PySem.Str.ofString "other"), (PySem.Str.ofString "items")]
def fn__law_spelled : Fn := ⟨1, 3, [.asg (.one 1) (.str (PySem.Str.ofString "")), .asg (.one 2) (.v 0), .whl (.cmp .Gt (.v 2) (.int 0)) [.asg (.one 1) (.bin .Add (.ix (.str (PySem.Str.ofString "abcdefghijklmnopqrstuvwxyz")) (.bin .Mod (.blt .int [(.bin .Sub (.v 2) (.int 1))]) (.int 26))) (.v 1)), .asg (.one 2) (.bin .FloorDiv (.bin .Sub (.v 2) (.int 1)) (.int 26))], .ret (.v 1)]⟩
def nm__law_spelled : List PySem.Str := [(PySem.Str.ofString "number"), (PySem.Str.ofString "word"), (PySem.Str.ofString "left")]
def fn__law_words : Fn := ⟨2, 5, [.asg (.one 2) (.lst []), .loop (.one 3) .rng [(.v 1)] [.asg (.one 4) (.bin .Add (.int 1) (.call (PySem.Str.ofString "_law_draw") [(.v 0), (.ix (.tup [(.int 26), (.int 702), (.int 18278), (.int 475254), (.int 95428956661682176)]) (.call (PySem.Str.ofString "_law_draw") [(.v 0), (.int 5)]))])), .whl (.cmp .In (.v 4) (.v 2)) [.asg (.one 4) (.bin .Add (.v 4) (.int 1))], .ex (.mth .append (.v 2) [(.v 4)])], .ret (.lc [4] (.one 4) .val [(.v 2)] (.bl true) (.call (PySem.Str.ofString "_law_spelled") [(.v 4)]))]⟩
def nm__law_words : List PySem.Str := [(PySem.Str.ofString "pool"), (PySem.Str.ofString "many"), (PySem.Str.ofString "taken"), (PySem.Str.ofString "k"), (PySem.Str.ofString "number")]
def fn__law_constructors : Fn := ⟨1, 4, [.asg (.one 1) (.ix (.tup [(.tup [(.int 0), (.int 1)]), (.tup [(.int 0), (.int 1), (.int 2)]), (.tup [(.int 0), (.int 0), (.int 1)]), (.tup [(.int 0), (.int 2)]), (.tup [(.int 1), (.int 0), (.int 0), (.int 2)]), (.tup [(.int 0), (.int 2), (.int 0)]), (.tup [(.int 1), (.int 1), (.int 0)]), (.tup [(.int 2), (.int 0), (.int 0)]), (.tup [(.int 0), (.int 1), (.int 0), (.int 1), (.int 2)]), (.tup [(.int 0), (.int 0)])]) (.call (PySem.Str.ofString "_law_draw") [(.v 0), (.int 10)])), .asg (.one 2) (.call (PySem.Str.ofString "_law_words") [(.v 0), (.blt .len [(.v 1)])]), .ret (.blt .tuple [(.lc [3] (.one 3) .rng [(.blt .len [(.v 1)])] (.bl true) (.tup [(.ix (.v 2) (.v 3)), (.ix (.v 1) (.v 3))]))])]⟩
def nm__law_constructors : List PySem.Str := [(PySem.Str.ofString "pool"), (PySem.Str.ofString "arities"), (PySem.Str.ofString "words"), (PySem.Str.ofString "k")]
def fn__law_term : Fn := ⟨4, 6, [.ite (.and (.cmp .Gt (.blt .len [(.v 2)]) (.int 0)) (.cmp .Eq (.call (PySem.Str.ofString "_law_draw") [(.v 0), (.int 2)]) (.int 0))) [.ret (.call (PySem.Str.ofString "_law_pick") [(.v 0), (.v 2)])] [], .asg (.one 4) (.call (PySem.Str.ofString "_law_pick") [(.v 0), (.lc [4] (.one 4) .val [(.v 1)] (.or (.cmp .Eq (.ix (.v 4) (.int 1)) (.int 0)) (.cmp .Gt (.v 3) (.int 1))) (.v 4))]), .ret (.bin .Add (.tup [(.ix (.v 4) (.int 0))]) (.blt .tuple [(.lc [5] (.one 5) .rng [(.ix (.v 4) (.int 1))] (.bl true) (.call (PySem.Str.ofString "_law_term") [(.v 0), (.v 1), (.v 2), (.bin .Sub (.v 3) (.int 1))]))]))]⟩
def nm__law_term : List PySem.Str := [(PySem.Str.ofString "pool"), (PySem.Str.ofString "constructors"), (PySem.Str.ofString "numbers"), (PySem.Str.ofString "deep"), (PySem.Str.ofString "pair"), (PySem.Str.ofString "k")]
def fn__law_arity : Fn := ⟨2, 3, [.loop (.one 2) .val [(.v 0)] [.ite (.cmp .Eq (.ix (.v 2) (.int 0)) (.v 1)) [.ret (.ix (.v 2) (.int 1))] []], .ret .non]⟩
def nm__law_arity : List PySem.Str := [(PySem.Str.ofString "constructors"), (PySem.Str.ofString "word"), (PySem.Str.ofString "pair")]
def fn__law_is_term : Fn := ⟨2, 3, [.ite (.not (.tru (.isi (.v 1) .tuple))) [.ret (.and (.call (PySem.Str.ofString "_law_is_integer") [(.v 1)]) (.cmp .GtE (.v 1) (.int 0)))] [], .ite (.or (.cmp .Eq (.blt .len [(.v 1)]) (.int 0)) (.or (.not (.tru (.isi (.ix (.v 1) (.int 0)) .str))) (.cmp .NotEq (.call (PySem.Str.ofString "_law_arity") [(.v 0), (.ix (.v 1) (.int 0))]) (.bin .Sub (.blt .len [(.v 1)]) (.int 1))))) [.ret (.bl false)] [], .ret (.cmp .Eq (.blt .len [(.lc [2] (.one 2) .val [(.sl (.v 1) [(.int 1)] [])] (.not (.tru (.call (PySem.Str.ofString "_law_is_term") [(.v 0), (.v 2)]))) (.v 2))]) (.int 0))]⟩
def nm__law_is_term : List PySem.Str := [(PySem.Str.ofString "constructors"), (PySem.Str.ofString "value"), (PySem.Str.ofString "part")]
def fn__law_occurrences : Fn := ⟨1, 3, [.ite (.tru (.call (PySem.Str.ofString "_law_is_integer") [(.v 0)])) [.ret (.lst [(.v 0)])] [], .asg (.one 1) (.lst []), .loop (.one 2) .val [(.sl (.v 0) [(.int 1)] [])] [.asg (.one 1) (.bin .Add (.v 1) (.call (PySem.Str.ofString "_law_occurrences") [(.v 2)]))], .ret (.v 1)]⟩
def nm__law_occurrences : List PySem.Str := [(PySem.Str.ofString "term"), (PySem.Str.ofString "row"), (PySem.Str.ofString "part")]
def lb_law_0 : List Sm := [.asg (.one 6) (.call (PySem.Str.ofString "_law_is_term") [(.v 2), (.v 5)]), .asg (.one 7) (.and (.v 6) (.cmp .Eq (.blt .len [(.call (PySem.Str.ofString "_law_occurrences") [(.v 5)])]) (.int 0))), .ite (.not (.tru (.call (PySem.Str.ofString "_law_same") [(.lst [(.call (PySem.Str.ofString "is_term") [(.v 2), (.v 5)]), (.call (PySem.Str.ofString "is_closed_term") [(.v 2), (.v 5)])]), (.lst [(.v 6), (.v 7)])]))) [.ret (.bl false)] []]
def lb_law_1 : List Sm := [.asg (.one 4) (.call (PySem.Str.ofString "_law_term") [(.v 1), (.v 2), (.sl (.lst [(.int 0), (.int 1), (.int 7), (.bin .Pow (.int 10) (.int 12))]) [] [(.call (PySem.Str.ofString "_law_draw") [(.v 1), (.int 5)])]), (.bin .Add (.int 1) (.call (PySem.Str.ofString "_law_draw") [(.v 1), (.int 4)]))]), .loop (.one 5) .val [(.tup [(.v 4), (.call (PySem.Str.ofString "_law_bent") [(.v 1), (.v 4)]), (.call (PySem.Str.ofString "_law_bent") [(.v 1), (.v 4)]), (.ite (.tru (.isi (.v 4) .tuple)) (.blt .list [(.v 4)]) (.bl true)), (.neg (.int 1))])] lb_law_0]
def fn_law : Fn := ⟨1, 8, [.asg (.one 1) (.call (PySem.Str.ofString "_law_pool") [(.v 0)]), .asg (.one 2) (.call (PySem.Str.ofString "_law_constructors") [(.v 1)]), .loop (.one 3) .rng [(.int 5)] lb_law_1, .ret (.bl true)]⟩
def nm_law : List PySem.Str := [(PySem.Str.ofString "script"), (PySem.Str.ofString "pool"), (PySem.Str.ofString "constructors"), (PySem.Str.ofString "turn"), (PySem.Str.ofString "term"), (PySem.Str.ofString "value"), (PySem.Str.ofString "right"), (PySem.Str.ofString "closed")]
def defNames : List PySem.Str := [(PySem.Str.ofString "is_variable"), (PySem.Str.ofString "arity_of"), (PySem.Str.ofString "is_term"), (PySem.Str.ofString "is_closed_term"), (PySem.Str.ofString "occurrences"), (PySem.Str.ofString "_law_same"), (PySem.Str.ofString "_law_is_integer"), (PySem.Str.ofString "_law_pool"), (PySem.Str.ofString "_law_spread"), (PySem.Str.ofString "_law_draw"), (PySem.Str.ofString "_law_pick"), (PySem.Str.ofString "_law_bent"), (PySem.Str.ofString "_law_spelled"), (PySem.Str.ofString "_law_words"), (PySem.Str.ofString "_law_constructors"), (PySem.Str.ofString "_law_term"), (PySem.Str.ofString "_law_arity"), (PySem.Str.ofString "_law_is_term"), (PySem.Str.ofString "_law_occurrences"), (PySem.Str.ofString "law")]
def tabF : List (PySem.Str × Fn) := [((PySem.Str.ofString "is_variable"), fn_is_variable), ((PySem.Str.ofString "arity_of"), fn_arity_of), ((PySem.Str.ofString "is_term"), fn_is_term), ((PySem.Str.ofString "is_closed_term"), fn_is_closed_term), ((PySem.Str.ofString "occurrences"), fn_occurrences), ((PySem.Str.ofString "_law_same"), fn__law_same), ((PySem.Str.ofString "_law_is_integer"), fn__law_is_integer), ((PySem.Str.ofString "_law_pool"), fn__law_pool), ((PySem.Str.ofString "_law_spread"), fn__law_spread), ((PySem.Str.ofString "_law_draw"), fn__law_draw), ((PySem.Str.ofString "_law_pick"), fn__law_pick), ((PySem.Str.ofString "_law_bent"), fn__law_bent), ((PySem.Str.ofString "_law_spelled"), fn__law_spelled), ((PySem.Str.ofString "_law_words"), fn__law_words), ((PySem.Str.ofString "_law_constructors"), fn__law_constructors), ((PySem.Str.ofString "_law_term"), fn__law_term), ((PySem.Str.ofString "_law_arity"), fn__law_arity), ((PySem.Str.ofString "_law_is_term"), fn__law_is_term), ((PySem.Str.ofString "_law_occurrences"), fn__law_occurrences), ((PySem.Str.ofString "law"), fn_law)]
def F0 (x : PySem.Str) : Option Fn := tabF.lookup x
def tabG : List (PySem.Str × PySem.Str) := []
def G0 (x : PySem.Str) : Option PySem.Str := tabG.lookup x
theorem F0_is_variable : F0 (PySem.Str.ofString "is_variable") = some fn_is_variable := by kernel_rfl
theorem F0_arity_of : F0 (PySem.Str.ofString "arity_of") = some fn_arity_of := by kernel_rfl
theorem F0_is_term : F0 (PySem.Str.ofString "is_term") = some fn_is_term := by kernel_rfl
theorem F0_is_closed_term : F0 (PySem.Str.ofString "is_closed_term") = some fn_is_closed_term := by kernel_rfl
theorem F0_occurrences : F0 (PySem.Str.ofString "occurrences") = some fn_occurrences := by kernel_rfl
theorem F0__law_same : F0 (PySem.Str.ofString "_law_same") = some fn__law_same := by kernel_rfl
theorem F0__law_is_integer : F0 (PySem.Str.ofString "_law_is_integer") = some fn__law_is_integer := by kernel_rfl
theorem F0__law_pool : F0 (PySem.Str.ofString "_law_pool") = some fn__law_pool := by kernel_rfl
theorem F0__law_spread : F0 (PySem.Str.ofString "_law_spread") = some fn__law_spread := by kernel_rfl
theorem F0__law_draw : F0 (PySem.Str.ofString "_law_draw") = some fn__law_draw := by kernel_rfl
theorem F0__law_pick : F0 (PySem.Str.ofString "_law_pick") = some fn__law_pick := by kernel_rfl
theorem F0__law_bent : F0 (PySem.Str.ofString "_law_bent") = some fn__law_bent := by kernel_rfl
theorem F0__law_spelled : F0 (PySem.Str.ofString "_law_spelled") = some fn__law_spelled := by kernel_rfl
theorem F0__law_words : F0 (PySem.Str.ofString "_law_words") = some fn__law_words := by kernel_rfl
theorem F0__law_constructors : F0 (PySem.Str.ofString "_law_constructors") = some fn__law_constructors := by kernel_rfl
theorem F0__law_term : F0 (PySem.Str.ofString "_law_term") = some fn__law_term := by kernel_rfl
theorem F0__law_arity : F0 (PySem.Str.ofString "_law_arity") = some fn__law_arity := by kernel_rfl
theorem F0__law_is_term : F0 (PySem.Str.ofString "_law_is_term") = some fn__law_is_term := by kernel_rfl
theorem F0__law_occurrences : F0 (PySem.Str.ofString "_law_occurrences") = some fn__law_occurrences := by kernel_rfl
theorem F0_law : F0 (PySem.Str.ofString "law") = some fn_law := by kernel_rfl
end Mp
section
set_option Elab.async false
set_option linter.all false
set_option maxRecDepth 100000
set_option maxHeartbeats 400000
namespace Mp
open PySem
local macro_rules | `(tactic| walk_at "mp") => `(tactic| simp only [wpB, wpS, wpE, wpEs, startD, pB_len, pB_int, pB_intb, pB_max, pB_min, pB_tuple, pB_list, pB_str, seqOf_tup, seqOf_scr, seqOf_put, pBin_add, pBin_mul, pBin_sub, pBin_mod, pBin_div, pBin_pow, pAug_add, pAug_sub, pAdd_int, pAdd_str, pAdd_tup, pMul_int, pCmp_eq, pCmp_ne, pCmp_lt, pCmp_le, pCmp_gt, pCmp_ge, pCmp_is, pCmp_isnot, pCmp_in, pCmp_notin, pIx_ref, ixO_lst, pSet_ref, setO_lst, pLen_ref, lenO_lst, pSl_ref, slO_lst, pIsi_ref, isiO_lst, isiO_dic, pTru_ref, truO_lst, truO_dic, pItK_ref, itO_lst, pAdd_ref, addO_lst, pM_app, appO_lst, pM_ext, extO_lst, mTy_app, mTy_ext, mTy_pp, pIn_sign, low_iff, isL_lst, seqOf_ref, seqO_lst, pB_anyr, pB_allr, boolsO_lst, pB_sumr, sumO_lst, put_put, ixN5_0, ixN5_1, ixN5_2, ixN5_3, ixN5_4, pEq_int, pEq_str, pEq_bl, pEq_non, pEq_ni, pEq_in, pEq_ns, pEq_sn, pEq_is, pEq_si, pIsi_non, pIsi_bl, pIsi_int, pIsi_str, pIsi_tup, pIsi_scr, tyEq, pTru_non, pTru_bl, pTru_int,
  pIx_tup, pIx_str, atI_0, atI_1, atI_2, atI_3, atI_4, pSl_tup, pSl_str, pSl_scr, pLen_tup, pLen_str, pItK_tup, pItK_str, pItK_r1, pItK_r2, partOf, wpTg, setAll, wipeD, put_same,
  List.map_cons, List.map_nil, List.replicate, List.length_cons, List.length_nil, List.length_map, List.cons_append, List.nil_append, List.getElem?_cons_zero, List.getElem?_cons_succ, List.getElem?_nil, List.set_cons_zero, List.set_cons_succ, List.set_nil, Option.some.injEq, exists_eq_left', exists_eq_left, D.int.injEq, D.bl.injEq, D.str.injEq, D.tup.injEq, D.ref.injEq, reduceCtorEq,
  if_true, if_false, Bool.false_eq_true, Bool.true_and, Bool.and_true, Bool.false_and, Bool.and_false, Bool.or_true, Bool.true_or, Bool.or_false, Bool.false_or, Bool.not_true, Bool.not_false, true_and, and_true, false_and, and_false, exists_false, decide_eq_true_eq, decide_true, decide_false, not_true_eq_false, not_false_eq_true, Nat.zero_sub, Nat.sub_zero, Nat.reduceSub, Nat.reduceAdd, Nat.reduceMul, ite_true, ite_false])
local macro_rules | `(tactic| walk_at "mq") => `(tactic| simp only [wpB, wpS, wpE, wpEs, startD, pB_len, pB_int, pB_intb, pB_max, pB_min, pB_tuple, pB_list, pB_str, seqOf_tup, seqOf_scr, seqOf_put, pBin_add, pBin_mul, pBin_sub, pBin_mod, pBin_div, pBin_pow, pAug_add, pAug_sub, pAdd_int, pAdd_str, pAdd_tup, pMul_int, pCmp_eq, pCmp_ne, pCmp_lt, pCmp_le, pCmp_gt, pCmp_ge, pCmp_is, pCmp_isnot, pCmp_in, pCmp_notin, pIx_ref, ixO_lst, pSet_ref, setO_lst, pLen_ref, lenO_lst, pSl_ref, slO_lst, pIsi_ref, isiO_lst, isiO_dic, pTru_ref, truO_lst, truO_dic, pItK_ref, itO_lst, pAdd_ref, addO_lst, pM_app, appO_lst, pM_ext, extO_lst, mTy_app, mTy_ext, mTy_pp, pIn_sign, low_iff, isL_lst, seqOf_ref, seqO_lst, pB_anyr, pB_allr, boolsO_lst, pB_sumr, sumO_lst, put_put, ixN5_0, ixN5_1, ixN5_2, ixN5_3, ixN5_4, pEq_int, pEq_str, pEq_bl, pEq_non, pEq_ni, pEq_in, pEq_ns, pEq_sn, pEq_is, pEq_si, pIsi_non, pIsi_bl, pIsi_int, pIsi_str, pIsi_tup, pIsi_scr, tyEq, pTru_non, pTru_bl, pTru_int,
  pIx_tup, pIx_str, atI_0, atI_1, atI_2, atI_3, atI_4, pSl_tup, pSl_str, pSl_scr, pLen_tup, pLen_str, pItK_tup, pItK_str, pItK_r1, pItK_r2, partOf, wpTg, setAll, wipeD, put_same,
  List.map_cons, List.map_nil, List.replicate, List.length_cons, List.length_nil, List.length_map, List.cons_append, List.nil_append, List.getElem?_cons_zero, List.getElem?_cons_succ, List.getElem?_nil, List.set_cons_zero, List.set_cons_succ, List.set_nil, Option.some.injEq, exists_eq_left', exists_eq_left, D.int.injEq, D.bl.injEq, D.str.injEq, D.tup.injEq, D.ref.injEq, reduceCtorEq,
  if_true, if_false, Bool.false_eq_true, Bool.true_and, Bool.and_true, Bool.false_and, Bool.and_false, Bool.or_true, Bool.true_or, Bool.or_false, Bool.false_or, Bool.not_true, Bool.not_false, true_and, and_true, false_and, and_false, exists_false, decide_eq_true_eq, decide_true, decide_false, not_true_eq_false, not_false_eq_true, Nat.zero_sub, Nat.sub_zero, Nat.reduceSub, Nat.reduceAdd, Nat.reduceMul, ite_true, ite_false, *])
local macro_rules | `(tactic| walk_at "mt") => `(tactic| try walk_at "mp")
local macro_rules | `(tactic| walk_at "m1") => `(tactic| simp only [↓wpE_callB, ↓wpS_iteB, ↓wpS_loopB, ↓wpS_whlB, ↓wpE_iteB, ↓wpE_andB, ↓wpE_orB, ↓wpE_lcB, wpB, wpS, wpE, wpEs, startD, pB_len, pB_int, pB_intb, pB_max, pB_min, pB_tuple, pB_list, pB_str, seqOf_tup, seqOf_scr, seqOf_put, pBin_add, pBin_mul, pBin_sub, pBin_mod, pBin_div, pBin_pow, pAug_add, pAug_sub, pAdd_int, pAdd_str, pAdd_tup, pMul_int, pCmp_eq, pCmp_ne, pCmp_lt, pCmp_le, pCmp_gt, pCmp_ge, pCmp_is, pCmp_isnot, pCmp_in, pCmp_notin, pIx_ref, ixO_lst, pSet_ref, setO_lst, pLen_ref, lenO_lst, pSl_ref, slO_lst, pIsi_ref, isiO_lst, isiO_dic, pTru_ref, truO_lst, truO_dic, pItK_ref, itO_lst, pAdd_ref, addO_lst, pM_app, appO_lst, pM_ext, extO_lst, mTy_app, mTy_ext, mTy_pp, pIn_sign, low_iff, isL_lst, seqOf_ref, seqO_lst, pB_anyr, pB_allr, boolsO_lst, pB_sumr, sumO_lst, put_put, ixN5_0, ixN5_1, ixN5_2, ixN5_3, ixN5_4, pEq_int, pEq_str, pEq_bl, pEq_non, pEq_ni, pEq_in, pEq_ns, pEq_sn, pEq_is, pEq_si, pIsi_non, pIsi_bl, pIsi_int, pIsi_str, pIsi_tup, pIsi_scr, tyEq, pTru_non, pTru_bl, pTru_int,
  pIx_tup, pIx_str, atI_0, atI_1, atI_2, atI_3, atI_4, pSl_tup, pSl_str, pSl_scr, pLen_tup, pLen_str, pItK_tup, pItK_str, pItK_r1, pItK_r2, partOf, wpTg, setAll, wipeD, put_same,
  List.map_cons, List.map_nil, List.replicate, List.length_cons, List.length_nil, List.length_map, List.cons_append, List.nil_append, List.getElem?_cons_zero, List.getElem?_cons_succ, List.getElem?_nil, List.set_cons_zero, List.set_cons_succ, List.set_nil, Option.some.injEq, exists_eq_left', exists_eq_left, D.int.injEq, D.bl.injEq, D.str.injEq, D.tup.injEq, D.ref.injEq, reduceCtorEq,
  if_true, if_false, Bool.false_eq_true, Bool.true_and, Bool.and_true, Bool.false_and, Bool.and_false, Bool.or_true, Bool.true_or, Bool.or_false, Bool.false_or, Bool.not_true, Bool.not_false, true_and, and_true, false_and, and_false, exists_false, decide_eq_true_eq, decide_true, decide_false, not_true_eq_false, not_false_eq_true, Nat.zero_sub, Nat.sub_zero, Nat.reduceSub, Nat.reduceAdd, Nat.reduceMul, ite_true, ite_false])
local macro_rules | `(tactic| walk_at "mh") => `(tactic| with_reducible first | refine kb_h ?_ | refine nb_nx ?_ | refine rb_h ?_ | refine bb_h ?_ | refine nb_rt ?_ | refine nb_ct ?_ | refine nb_bk ?_ | refine nb_ex ?_)
local macro_rules | `(tactic| walk_at "mw") => `(tactic| ((try walk_at "m1"); (repeat (walk_at "mh"; try walk_at "m1"))))
local macro_rules | `(tactic| walk_at "z1") => `(tactic| simp only [↓z_non, ↓z_bl, ↓z_int, ↓z_str, ↓z_v, ↓z_g, ↓z_tup, ↓z_lst, ↓z_dnew, ↓z_bin, ↓z_neg, ↓z_not, ↓z_and, ↓z_or, ↓z_tru, ↓z_cmp, ↓z_cmp2, ↓z_ite, ↓z_call, ↓z_blt, ↓z_isi, ↓z_mth, ↓z_ix, ↓z_sl, ↓z_lc, ↓zs_nil, ↓zs_cons, ↓zb_nil, ↓zb_cons, ↓y_asg, ↓y_set, ↓y_aug, ↓y_ex, ↓y_ret, ↓y_retN, ↓y_ite, ↓y_loop, ↓y_whl, ↓y_brk, ↓y_cnt, ↓y_pass, ↓tg_one, ↓tg_tup, ↓vat_0, ↓vat_s, ↓bat_bl, ↓iat_int, ↓gat_some, ↓pat_nil, ↓pat_int, ↓sset_0, ↓sset_s, ↓setK_cons, ↓setK_nil, ↓r_ix, ↓r_set, ↓r_len, ↓r_sl, ↓r_isi, ↓r_tru, ↓r_it, ↓r_add, ↓r_app, ↓r_ext, ↓r_any, ↓r_all, ↓r_sum, ↓r_tuple, ↓r_list, ↓r_ixt, ↓r_ixs, ↓r_addt, ↓r_adds, ↓r_mul, ↓r_mult, ↓r_mod, ↓r_div, ↓r_pow, ↓r_lens, ↓r_sls, ↓r_r1, ↓r_r2, ↓r_strb, ↓pB_len, ↓pB_int, ↓pB_intb, ↓pB_max, ↓pB_min, ↓pBin_add, ↓pBin_mul, ↓pBin_sub, ↓pAug_add, ↓pAug_sub, ↓pAdd_int, ↓pCmp_eq, ↓pCmp_ne, ↓pCmp_lt, ↓pCmp_le, ↓pCmp_gt, ↓pCmp_ge, ↓pCmp_is, ↓pCmp_isnot, ↓pCmp_in, ↓pCmp_notin, ↓pEq_int, ↓pEq_str, ↓pEq_bl, ↓pEq_non, ↓pEq_ni, ↓pEq_in, ↓pEq_ns, ↓pEq_sn, ↓pEq_is, ↓pEq_si, ↓pIsi_non, ↓pIsi_bl, ↓pIsi_int, ↓pIsi_str, ↓pIsi_tup, ↓pIsi_scr, ↓pTru_non, ↓pTru_bl, ↓pTru_int, ↓pSl_tup, ↓pSl_scr, ↓pLen_tup, ↓pItK_tup, ↓pItK_str, ↓pIn_sign, ↓ixO_lst, ↓setO_lst, ↓lenO_lst, ↓slO_lst, ↓isiO_lst, ↓isiO_dic, ↓truO_lst, ↓truO_dic, ↓itO_lst, ↓addO_lst, ↓appO_lst, ↓extO_lst, ↓isL_lst, ↓boolsO_lst, ↓sumO_lst,
  ixO_lst, setO_lst, lenO_lst, slO_lst, isiO_lst, isiO_dic, truO_lst, truO_dic, itO_lst, addO_lst, appO_lst, extO_lst, isL_lst, boolsO_lst, sumO_lst, seqOf_tup, seqOf_scr, seqOf_put, seqOf_ref, seqO_lst, mTy_app, mTy_ext, mTy_pp, put_put, put_same, ixN5_0, ixN5_1, ixN5_2, ixN5_3, ixN5_4, tyEq, low_iff, atI_0, atI_1, atI_2, atI_3, atI_4, startD, wipeD, vat_0, vat_s, bat_bl, iat_int, gat_some, sset_0, sset_s, pEq_int, pEq_str, pEq_bl, pEq_ni, pEq_in,
  List.map_cons, List.map_nil, List.replicate, List.length_cons, List.length_nil, List.length_map, List.cons_append, List.nil_append, List.getElem?_cons_zero, List.getElem?_cons_succ, List.getElem?_nil, List.set_cons_zero, List.set_cons_succ, List.set_nil, Option.some.injEq, exists_eq_left', exists_eq_left, D.int.injEq, D.bl.injEq, D.str.injEq, D.tup.injEq, D.ref.injEq, reduceCtorEq, if_true, if_false, Bool.false_eq_true, Bool.true_and, Bool.and_true, Bool.false_and, Bool.and_false, Bool.or_true, Bool.true_or, Bool.or_false, Bool.false_or, Bool.not_true, Bool.not_false, true_and, and_true, false_and, and_false, exists_false, decide_eq_true_eq, decide_true, decide_false, not_true_eq_false, not_false_eq_true, Nat.zero_sub, Nat.sub_zero, Nat.reduceSub, Nat.reduceAdd, Nat.reduceMul, ite_true, ite_false])
local macro_rules | `(tactic| walk_at "zh") => `(tactic| with_reducible first | refine kb_h ?_ | refine nb_nx ?_ | refine rb_h ?_ | refine bb_h ?_ | refine nb_rt ?_ | refine nb_ct ?_ | refine nb_bk ?_ | refine nb_ex ?_ | refine lb_h ?_ | refine tb_h ?_ | refine sb_h ?_ | refine loopB_h ?_ | refine testB_h ?_ | refine bodyB_h ?_ | refine elB_h ?_)
local macro_rules | `(tactic| walk_at "mz") => `(tactic| ((try walk_at "z1"); (repeat (walk_at "zh"; try walk_at "z1"))))

theorem sp_is_integer {k : Nat} (hk : 1 ≤ k) {d : D} {S : Sto} {X : XPost} {Q : Post} (h : ∀ a, d = .ref a → ∃ u, S a = some (.lst u)) (q : Q (.bl (match d with | .int _ => true | _ => false)) S) : W F0 G0 k (PySem.Str.ofString "_law_is_integer") [d] S X Q := by
  refine W_call hk F0__law_is_integer rfl ?_
  simp only [fn__law_is_integer]
  cases d with
  | ref a =>
    obtain ⟨u, hu⟩ := h a rfl
    walk_at "mq"
  | _ =>
    walk_at "mp"
    exact q
theorem sp_spread {k : Nat} (hk : 1 ≤ k) {i : Int} {S : Sto} {X : XPost} {Q : Post} (q : ∀ j, Q (.int j) S) : W F0 G0 k (PySem.Str.ofString "_law_spread") [.int i] S X Q := by
  refine W_call hk F0__law_spread rfl ?_
  simp only [fn__law_spread]
  walk_at "mp"
  refine ⟨by decide, by unfold small; omega, ?_⟩
  refine for_rng (fun n σ S' => S' = S ∧ ∃ a b x, 0 ≤ a ∧ a < 2147483647 ∧ σ = [some (.int i), some (.int a), some (.int b), x]) ⟨rfl, _, _, _, ?_, ?_, rfl⟩ ?_ ?_
  · omega
  · omega
  · rintro n σ S' K hn ⟨rfl, a, b, x, h1, h2, rfl⟩ hK
    walk_at "mp"
    refine ⟨cmul_r (by decide), by decide, cmul_r (by decide), hK _ _ ⟨rfl, _, _, _, ?_, ?_, rfl⟩⟩
    · omega
    · omega
  · rintro σ S' ⟨rfl, a, b, x, _, _, rfl⟩
    walk_at "mp"
    exact q _

/-- a pool of draws stands at p -/
def Pool (S : Sto) (p b : Addr) : Prop := ∃ (ns : List Int) (i v c s : Int), S p = some (.lst [.ref b, .int i, .int v, .int c, .int s]) ∧ S b = some (.lst (ns.map .int)) ∧ 0 ≤ i ∧ b ≠ p
theorem Pool.le {S S' : Sto} {p b : Addr} (h : Pool S p b) (l : Le S S') : Pool S' p b := by
  obtain ⟨ns, i, v, c, s, h1, h2, h3, h4⟩ := h
  exact ⟨ns, i, v, c, s, l _ _ h1, l _ _ h2, h3, h4⟩
theorem Pool.ne {S : Sto} {p b a : Addr} (h : Pool S p b) (ha : S a = none) : a ≠ p ∧ a ≠ b := by
  obtain ⟨ns, i, v, c, s, h1, h2, _⟩ := h
  exact ⟨fun e => (by rw [e, h1] at ha; cases ha), fun e => (by rw [e, h2] at ha; cases ha)⟩
theorem Pool.put {S : Sto} {p b a : Addr} {o : Ob} (h : Pool S p b) (n : a ≠ p ∧ a ≠ b) : Pool (S.put a o) p b := by
  obtain ⟨ns, i, v, c, s, h1, h2, h3⟩ := h
  exact ⟨ns, i, v, c, s, by rw [put_ne (Ne.symm n.1)]; exact h1, by rw [put_ne (Ne.symm n.2)]; exact h2, h3⟩
theorem LeX.put2 {S S' : Sto} {p a : Addr} {o : Ob} (h : S a = none) (l : LeX p S S') : LeX p S (S'.put a o) := fun b u n e => by
  rw [put_ne (fun c => by subst c; rw [h] at e; cases e)]; exact l b u n e
theorem sp_pool {k : Nat} (hk : 1 ≤ k) {ns : List Int} {S : Sto} {X : XPost} {Q : Post} (q : ∀ S' p b, S p = none → Le S S' → Pool S' p b → Q (.ref p) S') : W F0 G0 k (PySem.Str.ofString "_law_pool") [.scr ns] S X Q := by
  refine W_call hk F0__law_pool rfl ?_
  simp only [fn__law_pool]
  walk_at "mp"
  intro a ha
  rw [pItK_lst put_same]
  refine for_inv (fun pre σ S' => Le S S' ∧ (S' a = some (.lst (List.map D.int (cutD ns none (some 63))))) ∧ ∃ s x, σ = [some (.scr ns), some (.int s), x]) ⟨Le.put ha, put_same, _, _, rfl⟩ (fun _ _ _ h => h.2.1) ?_ ?_
  · rintro pre x post σ S' K e ⟨l, ha', s, y, rfl⟩ hK
    have hx : x ∈ List.map D.int (cutD ns none (some 63)) := by rw [e]; simp
    obtain ⟨z, _, rfl⟩ := List.mem_map.mp hx
    walk_at "mp"
    exact ⟨cmul_r (by decide), by decide, hK _ _ ⟨l, ha', _, _, rfl⟩⟩
  · rintro σ S' ⟨l, ha', s, y, rfl⟩
    walk_at "mp"
    intro b hb p hp
    have nb : b ≠ p := fun c => by subst c; rw [put_same] at hp; cases hp
    have hp' : S' p = none := by rw [put_ne (Ne.symm nb)] at hp; exact hp
    refine q _ p b ?_ (l.trans ((Le.put hb).trans (Le.put hp))) ⟨ns, 0, 0, 0, s, put_same, by rw [put_ne nb, put_same], Int.le_refl 0, nb⟩
    cases e : S p with
    | none => rfl
    | some o => rw [l _ _ e] at hp'; cases hp'
theorem sp_draw {k : Nat} (hk : 2 ≤ k) {p b : Addr} {m : Int} {S : Sto} {X : XPost} {Q : Post} (hp : Pool S p b) (h0 : 0 < m) (h1 : m < 2 ^ 64) (q : ∀ S' i, 0 ≤ i → i < m → LeX p S S' → Pool S' p b → Q (.int i) S') :
    W F0 G0 k (PySem.Str.ofString "_law_draw") [.ref p, .int m] S X Q := by
  obtain ⟨ns, i, v, c, s, hS, hb, hi, nb⟩ := hp
  refine W_call (by omega) F0__law_draw rfl ?_
  -- the second part, from any state in which the pool is one
  have part : ∀ (S1 : Sto) (x : Option D), LeX p S S1 → ∀ (i v c s : Int), 0 ≤ i → S1 p = some (.lst [.ref b, .int i, .int v, .int c, .int s]) →
      wpB (W F0 G0 (k - 1)) G0 (fn__law_draw.body.drop 1) { nx := fun _ S' => Q .non S', rt := Q, ex := X } [some (.ref p), some (.int m), x, none, none] S1 := by
    intro S1 x l i v c s hi hS
    simp only [fn__law_draw, List.drop_succ_cons, List.drop_zero]
    walk_at "mq"
    have fin : ∀ v' i', 0 ≤ i' → i' < m → Q (.int i') (S1.put p (.lst [.ref b, .int i, .int v', .int (c + 1), .int s])) := fun v' i' z0 z1 =>
      q _ i' z0 z1 (l.trans LeX.put) ⟨ns, i, v', c + 1, s, put_same, by rw [put_ne nb]; exact l _ _ nb hb, hi, nb⟩
    by_cases hv : v ≤ 0
    · rw [if_pos hv]
      refine ⟨cmul_r (by decide), cmul_r (by decide), by decide, cmul_r (by decide), by decide, by decide, ?_⟩
      exact fin v _ (Int.emod_nonneg _ (by omega)) (Int.emod_lt_of_pos _ h0)
    · rw [if_neg hv]
      refine ⟨?_, fin _ _ (Int.emod_nonneg _ (by omega)) (Int.emod_lt_of_pos _ h0)⟩
      have : m.natAbs.log2 < 65 := PySem.Flt.log2_lt_of (by decide) (by omega)
      omega
  simp only [fn__law_draw, List.drop_succ_cons, List.drop_zero] at part ⊢
  generalize hrest : ([Sm.set _ _ _, _, _, _, _] : List Sm) = rest at part ⊢
  walk_at "mq"
  by_cases hv : v ≤ 0
  · rw [if_pos hv]
    by_cases hl : i < ns.length
    · rw [if_pos hl]
      have hn : i.toNat < ns.length := by omega
      refine ⟨.int ns[i.toNat], by rw [atI_of hi, List.getElem?_map, List.getElem?_eq_getElem hn]; rfl, ?_⟩
      walk_at "mp"
      by_cases hc : ns[i.toNat] < 1000000000000000000
      · rw [if_pos hc]
        refine sp_spread (by omega) fun j => ?_
        walk_at "mp"
        exact part _ _ LeX.put (i + 1) j c s (by omega) put_same
      · rw [if_neg hc]
        exact part _ _ LeX.put (i + 1) _ c s (by omega) put_same
    · rw [if_neg hl]
      exact part _ _ LeX.refl i v c s hi hS
  · rw [if_neg hv]
    exact part _ _ LeX.refl i v c s hi hS

theorem ofNat_zero_iff {n : Nat} : ((n : Int) = 0) = (n = 0) := by apply propext; omega
theorem pIn_ints {S : Sto} {a : Addr} {ws : List Int} {w : Int} {R : Bool → Prop} (h : S a = some (.lst (ws.map .int))) (r : R (decide (w ∈ ws))) : pIn (.int w) (.ref a) S R := by
  unfold pIn; simp only [h]
  refine .inl ⟨rfl, ?_, ?_⟩
  · rw [List.all_map]; simp [D.flat]
  · rw [List.any_map]
    have e : (ws.any ((fun y => L2.eqV y.toV (D.int w).toV) ∘ D.int)) = decide (w ∈ ws) := by
      rw [Bool.eq_iff_iff]
      simp only [List.any_eq_true, Function.comp, D.toV, L2.eqV, beq_iff_eq, exists_eq_right, decide_eq_true_eq]
    rw [e]; exact r
theorem sp_is_variable {k : Nat} (hk : 1 ≤ k) {d : D} {S : Sto} {X : XPost} {Q : Post} (h : Dw S d) (q : Q (.bl (match d with | .int i => decide (0 ≤ i) | _ => false)) S) : W F0 G0 k (PySem.Str.ofString "is_variable") [d] S X Q := by
  refine W_call hk F0_is_variable rfl ?_
  simp only [fn_is_variable]
  cases d with
  | ref a =>
    obtain ⟨u, hu⟩ := h.ref
    walk_at "mq"
  | _ =>
    walk_at "mp"
    exact q
theorem sp_law_is_integer {k : Nat} (hk : 1 ≤ k) {d : D} {S : Sto} {X : XPost} {Q : Post} (h : Dw S d) (q : Q (.bl (match d with | .int _ => true | _ => false)) S) : W F0 G0 k (PySem.Str.ofString "_law_is_integer") [d] S X Q :=
by
  refine sp_is_integer hk (fun a e => by subst e; exact h.ref) ?_
  cases d <;> exact q
def sndD : D → D
  | .tup (_ :: v :: _) => v
  | _ => .non
def intD : D → Int
  | .int z => z
  | _ => 0
def spellF : Nat → Nat → List Nat
  | 0, _ => []
  | f + 1, n => if n = 0 then [] else spellF f ((n - 1) / 26) ++ [97 + (n - 1) % 26]
theorem spellF_any : ∀ (f g n : Nat), n ≤ f → n ≤ g → spellF f n = spellF g n
  | 0, 0, _, _, _ => rfl
  | 0, g + 1, n, h, _ => by have : n = 0 := by omega
                            subst this; simp [spellF]
  | f + 1, 0, n, _, h => by have : n = 0 := by omega
                            subst this; simp [spellF]
  | f + 1, g + 1, n, h, h' => by
    unfold spellF
    by_cases e : n = 0
    · rw [if_pos e, if_pos e]
    · rw [if_neg e, if_neg e, spellF_any f g _ (by omega) (by omega)]
def spell (n : Nat) : List Nat := spellF n n
theorem spell_0 : spell 0 = [] := rfl
theorem spell_pos {n : Nat} (h : 0 < n) : spell n = spell ((n - 1) / 26) ++ [97 + (n - 1) % 26] := by
  obtain ⟨m, rfl⟩ : ∃ m, n = m + 1 := ⟨n - 1, by omega⟩
  show spellF (m + 1) (m + 1) = _
  unfold spellF
  rw [if_neg (by omega)]
  rw [spellF_any m ((m + 1 - 1) / 26) _ (by omega) (Nat.le_refl _)]; rfl
def unspell (l : List Nat) : Nat := l.foldl (fun a c => 26 * a + (c - 96)) 0
theorem unspell_spell (n : Nat) : unspell (spell n) = n := by
  induction n using Nat.strongRecOn with
  | _ n ih =>
    by_cases h : 0 < n
    · rw [spell_pos h]
      unfold unspell
      rw [List.foldl_append]
      have := ih ((n - 1) / 26) (by omega)
      unfold unspell at this
      rw [this]
      simp only [List.foldl_cons, List.foldl_nil]; omega
    · have : n = 0 := by omega
      subst this; rfl
def spB : Nat → Nat
  | 0 => 0
  | k + 1 => 26 * spB k + 26
theorem spell_len : ∀ (k n : Nat), n ≤ spB k → (spell n).length ≤ k
  | 0, n, h => by
    have : n = 0 := by simp only [spB] at h; omega
    subst this; simp [spell_0]
  | k + 1, n, h => by
    by_cases h0 : 0 < n
    · rw [spell_pos h0, List.length_append, List.length_singleton]
      simp only [spB] at h
      have := spell_len k ((n - 1) / 26) (by omega)
      omega
    · have : n = 0 := by omega
      subst this; simp [spell_0]
theorem spell_low (n : Nat) : (spell n).all isLow = true := by
  induction n using Nat.strongRecOn with
  | _ n ih =>
    by_cases h : 0 < n
    · rw [spell_pos h, List.all_append, ih ((n - 1) / 26) (by omega)]
      simp [isLow]; omega
    · have : n = 0 := by omega
      subst this; rfl
def spS (n : Nat) : Str := ⟨(spell n).toArray⟩
theorem spS_inj {m n : Nat} (h : spS m = spS n) : m = n := by
  unfold spS at h
  injection h with h
  have := congrArg Array.toList h
  simp only at this
  rw [← unspell_spell m, ← unspell_spell n, this]
theorem spB12 : spB 12 = 99246114928149462 := by decide
theorem spS_word {n : Nat} (h : 0 < n) (h' : n ≤ 99246114928149462) : wordB (spS n) = true := by
  have h1 := spell_len 12 n (by rw [spB12]; exact h')
  have h2 := spell_low n
  have h3 : 1 ≤ (spell n).length := by rw [spell_pos h]; simp
  unfold wordB
  have e : (spS n).length = (spell n).length := rfl
  rw [e, decide_eq_true h1, decide_eq_true h3]
  exact h2
theorem letter_at {i : Int} (h : 0 ≤ i) (h' : i < 26) : L2.atI (PySem.Str.ofString "abcdefghijklmnopqrstuvwxyz").cps.toList i = some (97 + i.toNat) := by
  rw [letters_cps, atI_of h]
  have : ∀ j, j < 26 → ([97, 98, 99, 100, 101, 102, 103, 104, 105, 106, 107, 108, 109, 110, 111, 112, 113, 114, 115, 116, 117, 118, 119, 120, 121, 122] : List Nat)[j]? = some (97 + j) := by decide
  exact this _ (by omega)
theorem cps_append {a b : Str} : (a ++ b).cps = a.cps ++ b.cps := rfl
theorem sp_spelled {k : Nat} (hk : 1 ≤ k) {n : Nat} {S : Sto} {X : XPost} {Q : Post} (h1 : n ≤ 99246114928149462) (q : Q (.str (spS n)) S) :
    W F0 G0 k (PySem.Str.ofString "_law_spelled") [.int n] S X Q := by
  refine W_call (by omega) F0__law_spelled rfl ?_
  simp only [fn__law_spelled]
  walk_at "mp"
  have hb := spell_len 12 n (by rw [spB12]; exact h1)
  refine whl_inv (fun σ S' => S' = S ∧ ∃ (l : Int) (w : Str), 0 ≤ l ∧ σ = [some (.int n), some (.str w), some (.int l)] ∧ spell l.toNat ++ w.cps.toList = spell n)
    (fun σ _ => match σ with | [_, _, some (.int l)] => l.toNat | _ => 0) ⟨rfl, n, _, by omega, rfl, by simp; rfl⟩ ?_
  rintro σ S' K ⟨rfl, l, w, h0, rfl, hw⟩ hK
  walk_at "mp"
  by_cases hl : 0 < l
  · rw [if_pos hl]
    refine ⟨by decide, _, Nat.le_trans (by decide : _ ≤ 26) (by decide), letter_at (Int.emod_nonneg _ (by decide)) (Int.emod_lt_of_pos _ (by decide)), ?_, ⟨by decide, by decide⟩, ?_⟩
    · have := congrArg List.length hw
      rw [List.length_append] at this
      have e : w.length = w.cps.toList.length := by simp [Str.length]
      have e1 : Str.length ⟨#[97 + ((l - 1) % 26).toNat]⟩ = 1 := rfl
      rw [e1, e]
      have : sizeLine = 16777216 := by decide
      omega
    · refine hK _ _ ⟨rfl, (l - 1) / 26, _, by omega, rfl, ?_⟩ ?_
      · rw [← hw, spell_pos (n := l.toNat) (by omega), cps_append]
        have a1 : ((l - 1) / 26).toNat = (l.toNat - 1) / 26 := by omega
        have a2 : ((l - 1) % 26).toNat = (l.toNat - 1) % 26 := by omega
        rw [a1, a2]
        simp
      · show ((l - 1) / 26).toNat < l.toNat
        omega
  · rw [if_neg hl]
    have : l = 0 := by omega
    subst this
    have e : w = spS n := by
      unfold spS
      have : w.cps.toList = spell n := by simpa [spell_0] using hw
      rw [← this]
    rw [e]; exact q

def cnt (l : List Int) (n : Int) : Nat := (l.filter fun x => decide (n ≤ x)).length
theorem cnt_lt {l : List Int} {n : Int} (h : n ∈ l) : cnt l (n + 1) < cnt l n := by
  unfold cnt
  induction l with
  | nil => cases h
  | cons x r ih =>
    have le : (r.filter fun x => decide (n + 1 ≤ x)).length ≤ (r.filter fun x => decide (n ≤ x)).length := by
      clear ih h
      induction r with
      | nil => simp
      | cons y r ih =>
        rw [List.filter_cons, List.filter_cons]
        by_cases e : n + 1 ≤ y
        · rw [if_pos (by simpa using e), if_pos (by simp; omega)]; simpa using ih
        · rw [if_neg (by simpa using e)]
          by_cases e2 : n ≤ y
          · rw [if_pos (by simpa using e2), List.length_cons]; omega
          · rw [if_neg (by simpa using e2)]; exact ih
    rw [List.filter_cons, List.filter_cons]
    rcases List.mem_cons.mp h with rfl | h
    · rw [if_neg (by simp; omega), if_pos (by simp), List.length_cons]; omega
    · have := ih h
      by_cases e : n + 1 ≤ x
      · rw [if_pos (by simpa using e), if_pos (by simp; omega), List.length_cons, List.length_cons]; omega
      · rw [if_neg (by simpa using e)]
        by_cases e2 : n ≤ x
        · rw [if_pos (by simpa using e2), List.length_cons]; omega
        · rw [if_neg (by simpa using e2)]; exact this
theorem cnt_le (l : List Int) (n : Int) : cnt l n ≤ l.length := List.length_filter_le ..
theorem sp_words {k : Nat} (hk : 3 ≤ k) {p b : Addr} {m : Nat} {S : Sto} {X : XPost} {Q : Post} (hp : Pool S p b) (hm : m ≤ 1000)
    (q : ∀ S' a (ns : List Nat), S a = none → LeX p S S' → Pool S' p b → S' a = some (.lst (ns.map fun n => .str (spS n))) → ns.length = m → ns.Nodup → (∀ n ∈ ns, 0 < n ∧ n ≤ 99246114928149462) → Q (.ref a) S') :
    W F0 G0 k (PySem.Str.ofString "_law_words") [.ref p, .int m] S X Q := by
  refine W_call (by omega) F0__law_words rfl ?_
  simp only [fn__law_words]
  walk_at "mp"
  intro a ha
  refine ⟨⟨by omega, by omega⟩, ?_⟩
  have na := hp.ne ha
  refine for_rng (fun i σ S' => LeX p S S' ∧ Pool S' p b ∧ ∃ (ns : List Int) (x y : Option D), S' a = some (.lst (ns.map .int)) ∧ ns.length = i ∧ ns.Nodup ∧ (∀ n ∈ ns, 0 < n ∧ n ≤ 95428956661682176 + (i : Int)) ∧ σ = [some (.ref p), some (.int m), some (.ref a), x, y])
    ⟨(Le.put ha).x, hp.put na, [], none, none, by rw [put_same]; rfl, rfl, by simp, by simp, rfl⟩ ?_ ?_
  · rintro i σ S' K hi ⟨l, P', ns, x, y, hs, hl, hn, hb, rfl⟩ hK
    simp only [Int.sub_zero, Int.toNat_natCast] at hi
    walk_at "mp"
    refine sp_draw (by omega) P' (by decide) (by decide) fun S1 j j0 j1 l1 P1 => ?_
    walk_at "mp"
    obtain ⟨v, hv, v0, v1⟩ : ∃ v : Int, L2.atI [D.int 26, D.int 702, D.int 18278, D.int 475254, D.int 95428956661682176] j = some (.int v) ∧ 0 < v ∧ v ≤ 95428956661682176 := by
      have : j = 0 ∨ j = 1 ∨ j = 2 ∨ j = 3 ∨ j = 4 := by omega
      rcases this with rfl | rfl | rfl | rfl | rfl
      · exact ⟨_, rfl, by decide, by decide⟩
      · exact ⟨_, rfl, by decide, by decide⟩
      · exact ⟨_, rfl, by decide, by decide⟩
      · exact ⟨_, rfl, by decide, by decide⟩
      · exact ⟨_, rfl, by decide, by decide⟩
    refine ⟨_, hv, ?_⟩
    refine sp_draw (by omega) P1 v0 (by omega) fun S2 t t0 t1 l2 P2 => ?_
    walk_at "mp"
    have hs2 : S2 a = some (.lst (ns.map .int)) := l2 _ _ na.1 (l1 _ _ na.1 hs)
    have L2' : LeX p S S2 := l.trans (l1.trans l2)
    refine whl_inv (fun σ S' => S' = S2 ∧ ∃ n : Int, σ = [some (.ref p), some (.int m), some (.ref a), some (.int (0 + (i : Int))), some (.int n)] ∧ 0 < n ∧ n + cnt ns n ≤ 95428956661682176 + (i : Int))
      (fun σ _ => match σ with | [_, _, _, _, some (.int n)] => cnt ns n | _ => 0) ⟨rfl, _, rfl, by omega, ?_⟩ ?_
    · have := cnt_le ns (1 + t); omega
    rintro σ S' K' ⟨rfl, n, rfl, n0, n1⟩ hK'
    walk_at "mp"
    refine pIn_ints hs2 ?_
    by_cases hin : n ∈ ns
    · rw [decide_eq_true hin]; walk_at "mp"
      have := cnt_lt hin
      exact hK' _ _ ⟨rfl, _, rfl, by omega, by omega⟩ this
    · rw [decide_eq_false hin]; walk_at "mp"
      rw [hs2]; walk_at "mp"
      have hz : sizeLine = 16777216 := by decide
      refine ⟨by omega, hK _ _ ⟨LeX.put2 ha L2', P2.put na, ns ++ [n], _, _, by rw [put_same]; simp, by simp [hl], ?_, ?_, rfl⟩⟩
      · rw [List.nodup_append]
        exact ⟨hn, by simp, fun u hu w hw e => by simp at hw; rw [← hw, ← e] at hin; exact hin hu⟩
      · intro u hu
        rcases List.mem_append.mp hu with hu | hu
        · have := hb u hu; omega
        · simp at hu; subst hu; omega
  · rintro σ S' ⟨l, P', ns, x, y, hs, hl, hn, hb, rfl⟩
    simp only [Int.sub_zero, Int.toNat_natCast] at hl hb
    walk_at "mp"
    rw [hs]; walk_at "mp"
    have hz : sizeLine = 16777216 := by decide
    refine lc_map (fun d => .str (spS (intD d).toNat)) (by rw [List.length_map]; omega) (fun S1 l1 => l1 _ _ hs) ?_ ?_
    · intro d hd S1 K l1 hK
      obtain ⟨n, hn', rfl⟩ := List.mem_map.mp hd
      have hn2 := hb n hn'
      have e : n = ((n.toNat : Nat) : Int) := by omega
      rw [e]
      refine sp_spelled (by omega) (by omega) ?_
      have := hK _ Le.refl
      exact this
    · intro S1 l1 c hc
      have hcS : S c = none := by
        cases e : S c with
        | none => rfl
        | some o =>
          by_cases ep : c = p
          · subst ep; have := (P'.ne (a := c) (by
              cases e2 : S' c with
              | none => rfl
              | some o2 => rw [l1 _ _ e2] at hc; cases hc)).1
            exact absurd rfl this
          · rw [l1 _ _ (l _ _ ep e)] at hc; cases hc
      have nc := hp.ne hcS
      refine q _ c (ns.map Int.toNat) hcS ((l.trans l1.x).trans (Le.put hc).x) ((P'.le l1).put nc) ?_ (by rw [List.length_map]; exact hl) ?_ ?_
      · rw [put_same, List.map_map, List.map_map]; rfl
      · rw [List.nodup_iff_pairwise_ne, List.pairwise_map]
        rw [List.nodup_iff_pairwise_ne] at hn
        refine hn.imp_of_mem ?_
        intro u w hu hw ne e
        have := hb u hu; have := hb w hw
        exact ne (by omega)
      · intro n hn'
        obtain ⟨u, hu, rfl⟩ := List.mem_map.mp hn'
        have := hb u hu
        omega

theorem okS_append {a b : Str} (h : okS a = true) (h' : okS b = true) : okS (a ++ b) = true := by
  unfold okS at h h' ⊢
  rw [cps_append, Array.all_append, h, h', Bool.and_self]
theorem len_append {a b : Str} : (a ++ b).length = a.length + b.length := Array.size_append ..
theorem cutS_len {z : Str} {lo hi : Option Int} : (L2.cutS z lo hi).length ≤ z.length := by
  show (List.toArray _).size ≤ _
  rw [List.size_toArray]
  refine Nat.le_trans (List.Sublist.length_le (List.Sublist.trans (List.take_sublist ..) (List.drop_sublist ..))) ?_
  rw [Array.length_toList]; exact Nat.le_refl _
theorem okS_cut {z : Str} {lo hi : Option Int} (h : okS z = true) : okS (L2.cutS z lo hi) = true := by
  unfold okS at h ⊢
  rw [Array.all_eq_true_iff_forall_mem] at h ⊢
  intro c hc
  refine h c ?_
  have : c ∈ (z.cps.toList.drop (HT.sIx z.length 0 lo)).take (HT.sIx z.length z.length hi - HT.sIx z.length 0 lo) := by
    have e : c ∈ (L2.cutS z lo hi).cps := hc
    unfold L2.cutS at e
    simpa using e
  exact Array.mem_def.mpr ((List.drop_sublist ..).subset ((List.take_sublist ..).subset this))
theorem Dats.one {p : Addr} {S : Sto} {d : D} {b n m : Nat} (h : Dat p S d b n m) : Dats p S [d] b n (m + 1) := by have := Dats.cons h (Dats.nil (p := p) (S := S) (b := b) (n := n)); exact this

def bentW (n m : Nat) : Nat := (2 * n + 3) * m + 3 * n + 100
theorem bentW_ge (n m : Nat) : 3 * m + 100 ≤ bentW n m := by
  unfold bentW
  have : 3 * m ≤ (2 * n + 3) * m := Nat.mul_le_mul_right _ (by omega)
  omega
theorem bentW_succ (k m : Nat) : 2 * m + (bentW k m + 1) ≤ bentW (k + 1) m := by
  unfold bentW
  have : (2 * (k + 1) + 3) * m = 2 * m + (2 * k + 3) * m := by rw [show 2 * (k + 1) + 3 = 2 + (2 * k + 3) by omega, Nat.add_mul]
  omega
theorem at_some {u : List D} {i : Int} (h : 0 ≤ i) (h' : i < u.length) : ∃ d, u[i.toNat]? = some d ∧ L2.atI u i = some d := by
  have hn : i.toNat < u.length := by omega
  exact ⟨u[i.toNat], List.getElem?_eq_getElem hn, by rw [atI_of h, List.getElem?_eq_getElem hn]⟩
theorem sp_bent {p b : Addr} {B : Nat} (hB : B + 2 < 2 ^ 40) : ∀ (n : Nat) {k m : Nat} {d : D} {S : Sto} {X : XPost} {Q : Post}, n + 3 ≤ k → Pool S p b → Dat p S d B n m → m ≤ 2 ^ 20 →
    (∀ S' d', LeX p S S' → Pool S' p b → Dat p S' d' (B + 2) (n + 1) (bentW n m) → Q d' S') → W F0 G0 k (PySem.Str.ofString "_law_bent") [.ref p, d] S X Q := by
  intro n
  induction n using Nat.strongRecOn with
  | _ n ih =>
  intro k m d S X Q hk hp hd hm q
  have hg := bentW_ge n m
  have hz : sizeLine = 16777216 := by decide
  refine W_call (by omega) F0__law_bent rfl ?_
  have part : ∀ S1, LeX p S S1 → Pool S1 p b → wpB (W F0 G0 (k - 1)) G0 (fn__law_bent.body.drop 1) { nx := fun _ S' => Q .non S', rt := Q, ex := X } [some (.ref p), some d, none, none, none, none] S1 := by
    intro S1 l P1
    simp only [fn__law_bent, List.drop_succ_cons, List.drop_zero]
    walk_at "mp"
    refine sp_draw (by omega) P1 (by decide) (by decide) fun S2 t t0 t1 l2 P2 => ?_
    walk_at "mp"
    replace l := l.trans l2
    clear l2 P1 S1
    by_cases ht : t = 0
    · rw [if_pos ht]
      intro a ha
      have na := P2.ne ha
      refine sp_draw (by omega) (P2.put na) (by decide) (by decide) fun S3 j j0 j1 l3 P3 => ?_
      have l' : LeX p S S3 := l.trans ((Le.put ha).x.trans l3)
      walk_at "mp"
      have fin : ∀ d', Dat p S3 d' (B + 2) (n + 1) (bentW n m) → Q d' S3 := fun d' h => q _ _ l' P3 h
      have : j = 0 ∨ j = 1 ∨ j = 2 ∨ j = 3 ∨ j = 4 ∨ j = 5 ∨ j = 6 ∨ j = 7 := by omega
      rcases this with rfl | rfl | rfl | rfl | rfl | rfl | rfl | rfl
      · exact ⟨_, rfl, fin _ ((Dat.str (m := 1) (by decide +kernel) (by decide)).w (Nat.le_refl _) (by omega) (by omega))⟩
      · exact ⟨_, rfl, fin _ (Dat.bl.w (Nat.le_refl _) (by omega) (by omega))⟩
      · exact ⟨_, rfl, fin _ ((Dats.nil (n := 0)).tup.w (Nat.le_refl _) (by omega) (by omega))⟩
      · exact ⟨_, rfl, fin _ ((Dat.int (by simp) hB).w (Nat.le_refl _) (by omega) (by omega))⟩
      · exact ⟨_, rfl, fin _ ((Dat.int (by simp) hB).w (Nat.le_refl _) (by omega) (by omega))⟩
      · exact ⟨_, rfl, fin _ (Dat.non.w (Nat.le_refl _) (by omega) (by omega))⟩
      · exact ⟨_, rfl, fin _ (Dat.bl.w (Nat.le_refl _) (by omega) (by omega))⟩
      · exact ⟨_, rfl, fin _ ((((Dats.nil (n := 0)).lst ha na.1).x l3).w (Nat.le_refl _) (by omega) (by omega))⟩
    rw [if_neg ht]
    have fin : ∀ d', Dat p S2 d' (B + 2) (n + 1) (bentW n m) → Q d' S2 := fun d' h => q _ _ l P2 h
    replace hd := hd.x l
    have hd2 : Dat p S2 d (B + 2) n m := hd.w (by omega) (Nat.le_refl _) (Nat.le_refl _)
    refine sp_law_is_integer (by omega) (hd.dw (by omega)) ?_
    cases d with
    | int i =>
      walk_at "mp"
      refine sp_draw (by omega) P2 (by decide) (by decide) fun S3 j j0 j1 l3 P3 => ?_
      walk_at "mp"
      have hi := hd.int'
      have fin : ∀ v : Int, (i + v).natAbs ≤ B + 2 → Q (.int (i + v)) S3 := fun v hv => q _ _ (l.trans l3) P3 ((Dat.int hv hB).w (Nat.le_refl _) (by omega) (by omega))
      have : j = 0 ∨ j = 1 ∨ j = 2 ∨ j = 3 := by omega
      rcases this with rfl | rfl | rfl | rfl
      · exact ⟨_, rfl, fin _ (by omega)⟩
      · exact ⟨_, rfl, fin _ (by omega)⟩
      · exact ⟨_, rfl, fin _ (by omega)⟩
      · exact ⟨_, rfl, fin _ (by omega)⟩
    | str z =>
      obtain ⟨ho, hl⟩ := hd.str'
      walk_at "mp"
      have e1 : (PySem.Str.ofString "a").length = 1 := rfl
      have e2 : (PySem.Str.ofString "A").length = 1 := rfl
      have e3 : (PySem.Str.ofString " ").length = 1 := rfl
      rw [e1, e2, e3]
      refine ⟨by omega, by omega, by omega, by omega, by omega, ?_⟩
      refine sp_draw (by omega) P2 (by decide) (by decide) fun S3 j j0 j1 l3 P3 => ?_
      walk_at "mp"
      have fin : ∀ z' : Str, okS z' = true → z'.length ≤ m + 1 → Q (.str z') S3 := fun v hv hv' => q _ _ (l.trans l3) P3 ((Dat.str hv hv').w (Nat.le_refl _) (by omega) (by omega))
      have : j = 0 ∨ j = 1 ∨ j = 2 ∨ j = 3 ∨ j = 4 := by omega
      rcases this with rfl | rfl | rfl | rfl | rfl
      · exact ⟨_, rfl, fin _ (okS_append ho (by decide +kernel)) (by rw [len_append, e1]; omega)⟩
      · exact ⟨_, rfl, fin _ (okS_cut ho) (Nat.le_trans cutS_len (by omega))⟩
      · exact ⟨_, rfl, fin _ (okS_append ho (by decide +kernel)) (by rw [len_append, e2]; omega)⟩
      · exact ⟨_, rfl, fin _ (okS_append ho (by decide +kernel)) (by rw [len_append, e3]; omega)⟩
      · exact ⟨_, rfl, fin _ (okS_cut ho) (Nat.le_trans cutS_len (by omega))⟩
    | ref a =>
      obtain ⟨na, u, j, hu, rfl, hds⟩ := hd2.ref
      walk_at "mq"
      by_cases h5 : t < 5
      · rw [if_pos h5]
        exact fin _ ((Dats.cons hd2 (Dats.one ((Dat.int (i := 0) (by simp) hB).w (n' := j + 1) (Nat.le_refl _) (Nat.zero_le _) (Nat.le_refl _)))).tup.w (Nat.le_refl _) (by omega) (by omega))
      · rw [if_neg h5]
        exact fin _ ((Dats.nil (n := 0)).tup.w (Nat.le_refl _) (by omega) (by omega))
    | tup u =>
      by_cases hu : u = []
      · subst hu
        walk_at "mp"
        by_cases h5 : t < 5
        · simp only [h5]; walk_at "mp"
          exact fin _ ((Dats.cons (hd2.w (Nat.le_refl _) (by omega : n ≤ n) (Nat.le_refl _)) (Dats.one ((Dat.int (i := 0) (by simp) hB).w (Nat.le_refl _) (by omega : 0 ≤ n) (Nat.le_refl _)))).tup.w (Nat.le_refl _) (by omega) (by omega))
        · simp only [h5]; walk_at "mp"
          exact fin _ ((Dats.nil (n := 0)).tup.w (Nat.le_refl _) (by omega) (by omega))
      walk_at "mp"
      have hl : ¬ ((u.length : Int) = 0) := by have := List.length_pos_iff.mpr hu; omega
      rw [if_neg hl]
      clear hl
      have hl : 0 < u.length := List.length_pos_iff.mpr hu
      obtain ⟨j, rfl, hds⟩ := hd2.un
      have hlen := hds.len
      refine sp_draw (by omega) P2 (by omega) (by omega) fun S3 i i0 i1 l3 P3 => ?_
      walk_at "mp"
      have l' := l.trans l3
      replace hds := hds.x l3
      obtain ⟨y, hy, hy'⟩ := at_some i0 i1
      have fin : ∀ d', Dat p S3 d' (B + 2) (j + 1 + 1) (3 * m + 1) → Q d' S3 := fun d' h => q _ _ l' P3 (h.w (Nat.le_refl _) (Nat.le_refl _) (by omega))
      rw [cutD_to i0, cutD_from i0, cutD_from (by omega : (0 : Int) ≤ i + 1)]
      by_cases h3 : t < 3
      · rw [if_pos h3]
        refine ⟨by rw [List.length_take, List.length_drop]; omega, fin _ ?_⟩
        exact ((hds.take _).append (hds.drop _)).tup.w (Nat.le_refl _) (by omega) (by omega)
      rw [if_neg h3]
      by_cases h5 : t < 5
      · rw [if_pos h5]
        refine ⟨y, hy', ?_⟩
        refine ⟨by simp only [List.length_take, List.length_cons, List.length_nil]; omega, by simp only [List.length_append, List.length_take, List.length_drop, List.length_cons, List.length_nil]; omega, fin _ ?_⟩
        exact (((hds.take _).append (Dats.one (hds.get hy))).append (hds.drop _)).tup.w (Nat.le_refl _) (by omega) (by omega)
      rw [if_neg h5]
      by_cases he : t = 5
      · rw [if_pos he]
        intro a ha
        have na := P3.ne ha
        exact q _ _ (l'.trans (Le.put ha).x) (P3.put na) ((hds.lst ha na.1).w (Nat.le_refl _) (by omega) (by omega))
      rw [if_neg he]
      refine sp_draw (by omega) P3 (by omega) (by omega) fun S4 o o0 o1 l4 P4 => ?_
      walk_at "mp"
      intro a ha
      have na := P4.ne ha
      obtain ⟨z, hz1, hz'⟩ := at_some o0 o1
      refine ⟨z, hz', ?_⟩
      walk_at "mp"
      refine ⟨_, ixN_of i0 i1, ?_⟩
      refine ⟨y, hy', ?_⟩
      refine ⟨_, ixN_of o0 (by rw [List.length_set]; exact o1), ?_⟩
      replace hds := hds.x l4
      have h2 := ((hds.set i.toNat (hds.get hz1)).set o.toNat (hds.get hy)).x (Le.put (o := .lst ((u.set i.toNat z).set o.toNat y)) ha).x
      exact q _ _ ((l'.trans l4).trans (Le.put ha).x) (P4.put na) (h2.tup.w (Nat.le_refl _) (by omega) (by omega))
    | scr ns => obtain ⟨_, e, _⟩ := hd; cases e
    | non =>
      walk_at "mp"
      by_cases h5 : t < 5
      · rw [if_pos h5]
        exact fin _ ((Dats.cons Dat.non (Dats.one (Dat.int (i := 0) (by simp) hB))).tup.w (Nat.le_refl _) (by omega) (by omega))
      · rw [if_neg h5]
        exact fin _ ((Dats.nil (n := 0)).tup.w (Nat.le_refl _) (by omega) (by omega))
    | bl c =>
      walk_at "mp"
      by_cases h5 : t < 5
      · rw [if_pos h5]
        exact fin _ ((Dats.cons (Dat.bl) (Dats.one (Dat.int (i := 0) (by simp) hB))).tup.w (Nat.le_refl _) (by omega) (by omega))
      · rw [if_neg h5]
        exact fin _ ((Dats.nil (n := 0)).tup.w (Nat.le_refl _) (by omega) (by omega))
  cases d with
  | tup u =>
    obtain ⟨j, rfl, hds⟩ := hd.un
    by_cases hu : u = []
    · subst hu
      have := part _ LeX.refl hp
      simp only [fn__law_bent, List.drop_succ_cons, List.drop_zero] at this ⊢
      generalize hrest : ([Sm.asg (.one 3) _, _, _, _, _, _, _, _, _, _, _, _, _, _] : List Sm) = rest at this ⊢
      walk_at "mp"
      rw [if_neg (by simp)]
      exact this
    have hl : 0 < u.length := List.length_pos_iff.mpr hu
    have hlen := hds.len
    simp only [fn__law_bent, List.drop_succ_cons, List.drop_zero] at part ⊢
    generalize hrest : ([Sm.asg (.one 3) _, _, _, _, _, _, _, _, _, _, _, _, _, _] : List Sm) = rest at part ⊢
    walk_at "mp"
    rw [if_pos (by omega)]
    refine sp_draw (by omega) hp (by decide) (by decide) fun S1 t t0 t1 l1 P1 => ?_
    walk_at "mp"
    by_cases ht : 0 < t
    case neg => rw [if_neg ht]; exact part _ l1 P1
    rw [if_pos ht]
    refine sp_draw (by omega) P1 (by omega) (by omega) fun S2 i i0 i1 l2 P2 => ?_
    walk_at "mp"
    obtain ⟨y, hy, hy'⟩ := at_some i0 i1
    refine ⟨y, hy', ?_⟩
    have l := l1.trans l2
    replace hds := hds.x l
    have hy2 := hds.get hy
    refine ih j (by omega) (by omega) P2 hy2 hm fun S3 d' l3 P3 hd' => ?_
    rw [cutD_to i0, cutD_from (by omega : (0 : Int) ≤ i + 1)]
    replace hds := (hds.x l3).w (by omega : B ≤ B + 2) (by omega : j ≤ j + 1) (Nat.le_refl _)
    refine ⟨by simp only [List.length_take, List.length_cons, List.length_nil]; omega, by simp only [List.length_append, List.length_take, List.length_drop, List.length_cons, List.length_nil]; omega, ?_⟩
    refine q _ _ (l.trans l3) P3 ?_
    have := bentW_succ j m
    exact (((hds.take _).append (Dats.one hd')).append (hds.drop _)).tup.w (Nat.le_refl _) (Nat.le_refl _) (by omega)
  | ref a =>
    obtain ⟨na, u, j, hu, rfl, hds⟩ := hd.ref
    have := part _ LeX.refl hp
    simp only [fn__law_bent, List.drop_succ_cons, List.drop_zero] at this ⊢
    generalize hrest : ([Sm.asg (.one 3) _, _, _, _, _, _, _, _, _, _, _, _, _, _] : List Sm) = rest at this ⊢
    walk_at "mp"
    rw [hu]
    walk_at "mp"
    exact this
  | scr ns => obtain ⟨_, e, _⟩ := hd; cases e
  | _ =>
    have := part _ LeX.refl hp
    simp only [fn__law_bent, List.drop_succ_cons, List.drop_zero] at this ⊢
    generalize hrest : ([Sm.asg (.one 3) _, _, _, _, _, _, _, _, _, _, _, _, _, _] : List Sm) = rest at this ⊢
    walk_at "mp"
    exact this

theorem rg_map {g : D → D} {n : Nat} : (rgOf 0 (n : Int)).map g = (List.range n).map fun (k : Nat) => g (.int (k : Int)) := by
  unfold rgOf
  rw [List.map_map, show ((n : Int) - 0).toNat = n by omega]
  refine List.map_congr_left fun k _ => ?_
  show g (.int (0 + (k : Int))) = _
  rw [Int.zero_add]
theorem rg_len {n : Nat} : (rgOf 0 (n : Int)).length = n := by unfold rgOf; simp
theorem rg_mem {n : Nat} {x : D} (h : x ∈ rgOf 0 (n : Int)) : ∃ k : Nat, k < n ∧ x = .int k := by
  unfold rgOf at h
  obtain ⟨k, hk, rfl⟩ := List.mem_map.mp h
  exact ⟨k, by simpa using hk, by rw [Int.zero_add]⟩
theorem range_zip {α β γ : Type} [Inhabited α] [Inhabited β] (f : α → β → γ) (as : List α) (bs : List β) (h : as.length = bs.length) : (List.range bs.length).map (fun k => f (as.getD k default) (bs.getD k default)) = (as.zip bs).map fun q => f q.1 q.2 := by
  refine List.ext_getElem (by simp [h]) fun i h1 h2 => ?_
  simp only [List.length_map, List.length_range] at h1
  simp only [List.getElem_map, List.getElem_range, List.getElem_zip]
  rw [List.getD_eq_getElem?_getD, List.getD_eq_getElem?_getD, List.getElem?_eq_getElem h1, List.getElem?_eq_getElem (by omega : i < as.length)]
  rfl
/-- constructors as a value -/
def consOf (q : List (Nat × Int)) : D := .tup (q.map fun z => .tup [.str (spS z.1), .int z.2])
theorem sp_constructors {k : Nat} (hk : 4 ≤ k) {p b : Addr} {S : Sto} {X : XPost} {Q : Post} (hp : Pool S p b)
    (q : ∀ S' (ns : List Nat) (ar : List Int), LeX p S S' → Pool S' p b → ns.length = ar.length → 2 ≤ ar.length → ar.length ≤ 5 → ns.Nodup → (∀ n ∈ ns, 0 < n ∧ n ≤ 99246114928149462) → (∀ i ∈ ar, 0 ≤ i ∧ i ≤ 2) → (0 : Int) ∈ ar → Q (consOf (ns.zip ar)) S') :
    W F0 G0 k (PySem.Str.ofString "_law_constructors") [.ref p] S X Q := by
  refine W_call (by omega) F0__law_constructors rfl ?_
  simp only [fn__law_constructors]
  walk_at "mp"
  refine sp_draw (by omega) hp (by decide) (by decide) fun S1 j j0 j1 l1 P1 => ?_
  walk_at "mp"
  obtain ⟨ar, har, a2, a5, ha, a0⟩ : ∃ ar : List Int, L2.atI [D.tup [D.int 0, D.int 1], D.tup [D.int 0, D.int 1, D.int 2], D.tup [D.int 0, D.int 0, D.int 1], D.tup [D.int 0, D.int 2], D.tup [D.int 1, D.int 0, D.int 0, D.int 2], D.tup [D.int 0, D.int 2, D.int 0],
      D.tup [D.int 1, D.int 1, D.int 0], D.tup [D.int 2, D.int 0, D.int 0], D.tup [D.int 0, D.int 1, D.int 0, D.int 1, D.int 2], D.tup [D.int 0, D.int 0]] j = some (.tup (ar.map .int)) ∧ 2 ≤ ar.length ∧ ar.length ≤ 5 ∧ (∀ i ∈ ar, 0 ≤ i ∧ i ≤ 2) ∧ (0 : Int) ∈ ar := by
    have : j = 0 ∨ j = 1 ∨ j = 2 ∨ j = 3 ∨ j = 4 ∨ j = 5 ∨ j = 6 ∨ j = 7 ∨ j = 8 ∨ j = 9 := by omega
    rcases this with rfl | rfl | rfl | rfl | rfl | rfl | rfl | rfl | rfl | rfl
    · exact ⟨[0, 1], rfl, by decide, by decide, by decide, by decide⟩
    · exact ⟨[0, 1, 2], rfl, by decide, by decide, by decide, by decide⟩
    · exact ⟨[0, 0, 1], rfl, by decide, by decide, by decide, by decide⟩
    · exact ⟨[0, 2], rfl, by decide, by decide, by decide, by decide⟩
    · exact ⟨[1, 0, 0, 2], rfl, by decide, by decide, by decide, by decide⟩
    · exact ⟨[0, 2, 0], rfl, by decide, by decide, by decide, by decide⟩
    · exact ⟨[1, 1, 0], rfl, by decide, by decide, by decide, by decide⟩
    · exact ⟨[2, 0, 0], rfl, by decide, by decide, by decide, by decide⟩
    · exact ⟨[0, 1, 0, 1, 2], rfl, by decide, by decide, by decide, by decide⟩
    · exact ⟨[0, 0], rfl, by decide, by decide, by decide, by decide⟩
  refine ⟨_, har, ?_⟩
  walk_at "mp"
  refine sp_words (by omega) P1 (by omega) fun S2 a ns ha1 l2 P2 hs hl hn hb => ?_
  refine ⟨⟨by omega, by omega⟩, ?_⟩
  have hz : sizeLine = 16777216 := by decide
  refine lc_map (fun d => .tup [.str (spS (ns.getD (intD d).toNat default)), .int (ar.getD (intD d).toNat default)]) (by rw [rg_len]; omega) (fun _ _ => trivial) ?_ ?_
  · intro x hx S3 K l3 hK
    obtain ⟨i, hi, rfl⟩ := rg_mem hx
    walk_at "mp"
    rw [l3 _ _ hs]
    walk_at "mp"
    have h1 : i < ns.length := by omega
    refine ⟨.str (spS ns[i]), by rw [atI_n, List.getElem?_map, List.getElem?_eq_getElem h1]; rfl, ?_⟩
    refine ⟨.int ar[i], by rw [atI_n, List.getElem?_map, List.getElem?_eq_getElem hi]; rfl, ?_⟩
    have := hK _ Le.refl
    simp only [intD, Int.toNat_natCast] at this
    rw [List.getD_eq_getElem?_getD, List.getD_eq_getElem?_getD, List.getElem?_eq_getElem h1, List.getElem?_eq_getElem hi] at this
    exact this
  · intro S3 l3 c hc
    walk_at "mp"
    have hcS : S2 c = none := by
      cases e : S2 c with
      | none => rfl
      | some o => rw [l3 _ _ e] at hc; cases hc
    have nc := P2.ne hcS
    have := q _ ns ar (((l1.trans l2).trans l3.x).trans (Le.put (o := .lst ((rgOf 0 (ar.length : Int)).map fun d => .tup [.str (spS (ns.getD (intD d).toNat default)), .int (ar.getD (intD d).toNat default)])) hc).x) ((P2.le l3).put nc) hl a2 a5 hn hb ha a0
    rw [show consOf (ns.zip ar) = .tup ((rgOf 0 (ar.length : Int)).map fun d => .tup [.str (spS (ns.getD (intD d).toNat default)), .int (ar.getD (intD d).toNat default)]) from ?_] at this
    · exact this
    · rw [rg_map]
      unfold consOf
      rw [← range_zip (fun n i => D.tup [.str (spS n), .int i]) ns ar hl]; rfl
inductive Tm where
  | var (i : Int) | app (w : Str) (ts : List Tm)
  deriving Inhabited
mutual
def Tm.d : Tm → D
  | .var i => .int i
  | .app w ts => .tup (.str w :: Tm.ds ts)
def Tm.ds : List Tm → List D
  | [] => []
  | t :: ts => t.d :: Tm.ds ts
end
theorem Tm.ds_map : ∀ ts : List Tm, Tm.ds ts = ts.map Tm.d
  | [] => rfl
  | t :: ts => by rw [Tm.ds, Tm.ds_map ts]; rfl
/-- constructors as a value -/
def consT (c : List (Str × Int)) : D := .tup (c.map fun z => .tup [.str z.1, .int z.2])
mutual
/-- is a term, of any value -/
def termB (c : List (Str × Int)) : D → Bool
  | .int i => decide (0 ≤ i)
  | .tup (.str w :: rs) => decide (c.lookup w = some (rs.length : Int)) && termBs c rs
  | _ => false
def termBs (c : List (Str × Int)) : List D → Bool
  | [] => true
  | d :: ds => termB c d && termBs c ds
end
theorem termBs_all {c : List (Str × Int)} : ∀ ds : List D, termBs c ds = ds.all (termB c)
  | [] => rfl
  | d :: ds => by rw [termBs, termBs_all ds]; rfl
mutual
def Tm.ok (c : List (Str × Int)) : Tm → Bool
  | .var i => decide (0 ≤ i)
  | .app w ts => decide (c.lookup w = some (ts.length : Int)) && Tm.oks c ts
def Tm.oks (c : List (Str × Int)) : List Tm → Bool
  | [] => true
  | t :: ts => t.ok c && Tm.oks c ts
end
theorem Tm.oks_all {c : List (Str × Int)} : ∀ ts : List Tm, Tm.oks c ts = ts.all (Tm.ok c)
  | [] => rfl
  | d :: ds => by rw [Tm.oks, Tm.oks_all ds]; rfl
mutual
theorem termB_of {c : List (Str × Int)} : ∀ d : D, termB c d = true → ∃ t : Tm, d = t.d
  | .int i, _ => ⟨.var i, rfl⟩
  | .tup [], h => by simp [termB] at h
  | .tup (.str w :: rs), h => by
    simp only [termB, Bool.and_eq_true] at h
    obtain ⟨ts, rfl⟩ := termBs_of rs h.2
    exact ⟨.app w ts, rfl⟩
  | .tup (.non :: _), h => by simp [termB] at h
  | .tup (.bl _ :: _), h => by simp [termB] at h
  | .tup (.int _ :: _), h => by simp [termB] at h
  | .tup (.tup _ :: _), h => by simp [termB] at h
  | .tup (.scr _ :: _), h => by simp [termB] at h
  | .tup (.ref _ :: _), h => by simp [termB] at h
  | .non, h => by simp [termB] at h
  | .bl _, h => by simp [termB] at h
  | .str _, h => by simp [termB] at h
  | .scr _, h => by simp [termB] at h
  | .ref _, h => by simp [termB] at h
theorem termBs_of {c : List (Str × Int)} : ∀ ds : List D, termBs c ds = true → ∃ ts : List Tm, ds = Tm.ds ts
  | [], _ => ⟨[], rfl⟩
  | d :: ds, h => by
    simp only [termBs, Bool.and_eq_true] at h
    obtain ⟨t, rfl⟩ := termB_of d h.1
    obtain ⟨ts, rfl⟩ := termBs_of ds h.2
    exact ⟨t :: ts, rfl⟩
end
mutual
def Tm.occ : Tm → List Int
  | .var i => [i]
  | .app _ ts => Tm.occs ts
def Tm.occs : List Tm → List Int
  | [] => []
  | t :: ts => t.occ ++ Tm.occs ts
end
theorem Tm.occs_flat : ∀ ts : List Tm, Tm.occs ts = ts.flatMap Tm.occ
  | [] => rfl
  | t :: ts => by rw [Tm.occs, Tm.occs_flat ts]; rfl
mutual
def Tm.ht : Tm → Nat
  | .var _ => 1
  | .app _ ts => 1 + Tm.hts ts
def Tm.hts : List Tm → Nat
  | [] => 0
  | t :: ts => max t.ht (Tm.hts ts)
end
theorem Tm.hts_le {n : Nat} : ∀ {ts : List Tm}, Tm.hts ts ≤ n ↔ ∀ t ∈ ts, t.ht ≤ n
  | [] => by simp [Tm.hts]
  | t :: ts => by
    have := Tm.hts_le (n := n) (ts := ts)
    simp only [Tm.hts, List.mem_cons, forall_eq_or_imp, ← this]; omega
mutual
def Tm.size : Tm → Nat
  | .var _ => 1
  | .app _ ts => 1 + Tm.sizes ts
def Tm.sizes : List Tm → Nat
  | [] => 0
  | t :: ts => t.size + Tm.sizes ts
end
theorem Tm.size_mem : ∀ {ts : List Tm} {t : Tm}, t ∈ ts → t.size ≤ Tm.sizes ts
  | x :: xs, t, h => by
    simp only [Tm.sizes]
    rcases List.mem_cons.mp h with rfl | h
    · omega
    · have := Tm.size_mem h; omega
mutual
theorem Tm.occ_len : ∀ t : Tm, t.occ.length ≤ t.size
  | .var _ => by simp [Tm.occ, Tm.size]
  | .app _ ts => by have := Tm.occs_len ts; simp only [Tm.occ, Tm.size]; omega
theorem Tm.occs_len : ∀ ts : List Tm, (Tm.occs ts).length ≤ Tm.sizes ts
  | [] => by simp [Tm.occs]
  | t :: ts => by have := Tm.occs_len ts; have := t.occ_len; simp only [Tm.occs, Tm.sizes, List.length_append]; omega
end
theorem Tm.occs_append (a b : List Tm) : Tm.occs (a ++ b) = Tm.occs a ++ Tm.occs b := by
  rw [Tm.occs_flat, Tm.occs_flat, Tm.occs_flat, List.flatMap_append]
theorem Tm.sizes_append : ∀ a b : List Tm, Tm.sizes (a ++ b) = Tm.sizes a + Tm.sizes b
  | [], b => by simp [Tm.sizes]
  | x :: a, b => by simp only [List.cons_append, Tm.sizes, Tm.sizes_append a b]; omega
def optD : Option Int → D
  | some a => .int a
  | none => .non
theorem sp_arity_of {k : Nat} (hk : 1 ≤ k) {c : List (Str × Int)} {w : Str} {S : Sto} {X : XPost} {Q : Post} (q : Q (optD (c.lookup w)) S) :
    W F0 G0 k (PySem.Str.ofString "arity_of") [consT c, .str w] S X Q := by
  refine W_call hk F0_arity_of rfl ?_
  simp only [fn_arity_of, consT]
  walk_at "mw"
  refine for_inv (fun pre σ S' => S' = S ∧ ∃ us x y, us <+: c ∧ pre = us.map (fun z => D.tup [.str z.1, .int z.2]) ∧ us.lookup w = none ∧ σ = [some (consT c), some (.str w), x, y]) ⟨rfl, [], none, none, List.nil_prefix, rfl, rfl, rfl⟩ (fun _ _ _ _ => trivial) ?_ ?_
  · rintro pre x post σ S' K e ⟨rfl, us, x0, y0, ⟨r, hr⟩, rfl, hu, rfl⟩ hK
    rw [← hr, List.map_append, List.append_cancel_left_eq] at e
    cases r with
    | nil => cases e
    | cons z r =>
      obtain ⟨z1, z2⟩ := z
      simp only [List.map_cons, List.cons.injEq] at e
      obtain ⟨rfl, _⟩ := e
      walk_at "mw"
      have lk : c.lookup w = ((z1, z2) :: r).lookup w := by
        rw [← hr, List.lookup_append, hu]; rfl
      by_cases hw : z1 = w
      · rw [if_pos hw]
        walk_at "mw"
        subst hw
        rw [lk, List.lookup_cons_self] at q
        exact q
      · rw [if_neg hw]
        walk_at "mw"
        refine hK _ _ ⟨rfl, us ++ [(z1, z2)], _, _, ⟨r, by rw [← hr]; simp⟩, by simp, ?_, rfl⟩
        rw [List.lookup_append, hu, List.lookup_cons, beq_eq_false_iff_ne.mpr (Ne.symm hw)]; rfl
  · rintro σ S' ⟨rfl, us, x0, y0, ⟨r, hr⟩, e, hu, rfl⟩
    walk_at "mw"
    have : us = c := by
      have := congrArg List.length e
      rw [List.length_map, List.length_map] at this
      have h2 := congrArg List.length hr
      rw [List.length_append] at h2
      have : r = [] := List.length_eq_zero_iff.mp (by omega)
      rw [← hr, this, List.append_nil]
    subst this
    rw [hu] at q; exact q
theorem sp_law_arity {k : Nat} (hk : 1 ≤ k) {c : List (Str × Int)} {w : Str} {S : Sto} {X : XPost} {Q : Post} (q : Q (optD (c.lookup w)) S) :
    W F0 G0 k (PySem.Str.ofString "_law_arity") [consT c, .str w] S X Q := by
  refine W_call hk F0__law_arity rfl ?_
  simp only [fn__law_arity, consT]
  walk_at "mw"
  refine for_inv (fun pre σ S' => S' = S ∧ ∃ us x, us <+: c ∧ pre = us.map (fun z => D.tup [.str z.1, .int z.2]) ∧ us.lookup w = none ∧ σ = [some (consT c), some (.str w), x]) ⟨rfl, [], none, List.nil_prefix, rfl, rfl, rfl⟩ (fun _ _ _ _ => trivial) ?_ ?_
  · rintro pre x post σ S' K e ⟨rfl, us, x0, ⟨r, hr⟩, rfl, hu, rfl⟩ hK
    rw [← hr, List.map_append, List.append_cancel_left_eq] at e
    cases r with
    | nil => cases e
    | cons z r =>
      obtain ⟨z1, z2⟩ := z
      simp only [List.map_cons, List.cons.injEq] at e
      obtain ⟨rfl, _⟩ := e
      walk_at "mw"
      have lk : c.lookup w = ((z1, z2) :: r).lookup w := by
        rw [← hr, List.lookup_append, hu]; rfl
      by_cases hw : z1 = w
      · rw [if_pos hw]
        walk_at "mw"
        subst hw
        rw [lk, List.lookup_cons_self] at q
        exact q
      · rw [if_neg hw]
        walk_at "mw"
        refine hK _ _ ⟨rfl, us ++ [(z1, z2)], _, ⟨r, by rw [← hr]; simp⟩, by simp, ?_, rfl⟩
        rw [List.lookup_append, hu, List.lookup_cons, beq_eq_false_iff_ne.mpr (Ne.symm hw)]; rfl
  · rintro σ S' ⟨rfl, us, x0, ⟨r, hr⟩, e, hu, rfl⟩
    walk_at "mw"
    have : us = c := by
      have := congrArg List.length e
      rw [List.length_map, List.length_map] at this
      have h2 := congrArg List.length hr
      rw [List.length_append] at h2
      have : r = [] := List.length_eq_zero_iff.mp (by omega)
      rw [← hr, this, List.append_nil]
    subst this
    rw [hu] at q; exact q

theorem int_sub1 {n : Nat} : ((n + 1 : Nat) : Int) - 1 = n := by omega
theorem cutD_1 {α : Type} {x : α} {u : List α} : cutD (x :: u) (some 1) none = u := by rw [cutD_from (by decide)]; rfl
theorem pEq_opt {o : Option Int} {n : Int} {S : Sto} {R : Bool → Prop} : pEq (optD o) (.int n) S R = R (decide (o = some n)) := by
  cases o with
  | none => simp only [optD, pEq_ni, reduceCtorEq, decide_false]
  | some a => simp only [optD, pEq_int, Option.some.injEq]
theorem sp_is_term {c : List (Str × Int)} {p : Addr} {B m : Nat} (hm : m ≤ sizeLine) : ∀ (n : Nat) {k : Nat} {d : D} {S : Sto} {X : XPost} {Q : Post}, n + 2 ≤ k → Dat p S d B n m → (∀ S', Le S S' → Q (.bl (termB c d)) S') →
    W F0 G0 k (PySem.Str.ofString "is_term") [consT c, d] S X Q := by
  intro n
  induction n using Nat.strongRecOn with
  | _ n ih =>
  intro k d S X Q hk hd q
  have hw := hd.dw hm
  refine W_call (by omega) F0_is_term rfl ?_
  simp only [fn_is_term]
  cases d with
  | ref a =>
    obtain ⟨na, u, j, hu, rfl, hds⟩ := hd.ref
    walk_at "mw"
    rw [hu]
    walk_at "mw"
    refine sp_is_variable (by omega) hw ?_
    walk_at "mw"
    exact q _ Le.refl
  | tup u =>
    obtain ⟨j, rfl, hds⟩ := hd.un
    walk_at "mw"
    cases u with
    | nil =>
      walk_at "mw"
      rw [if_pos (by simp)]
      walk_at "mw"
      exact q _ Le.refl
    | cons x rs =>
      walk_at "mw"
      rw [if_neg (by simp; omega)]
      have hx := hds.get (i := 0) rfl
      have stop : (∀ w, x ≠ .str w) → termB c (.tup (x :: rs)) = false := by
        intro h; cases x <;> simp [termB] at h ⊢
      cases x with
      | ref a =>
        obtain ⟨na, u, j, hu, rfl, _⟩ := hx.ref
        walk_at "mw"
        rw [hu]
        walk_at "mw"
        rw [← stop (by simp)]; exact q _ Le.refl
      | str w =>
        walk_at "mw"
        refine sp_arity_of (by omega) ?_
        walk_at "mw"
        rw [int_sub1, pEq_opt]
        by_cases ha : c.lookup w = some (rs.length : Int)
        case neg =>
          simp only [ha, decide_false]
          walk_at "mw"
          have : termB c (.tup (.str w :: rs)) = false := by simp only [termB, ha, decide_false, Bool.false_and]
          rw [← this]; exact q _ Le.refl
        simp only [ha, decide_true]
        walk_at "mw"
        rw [cutD_1]
        have hrs : Dats p S rs B j m := hds.drop 1
        refine lc_map (fun d => .bl (termB c d)) (Nat.le_trans hrs.len hm) (fun _ _ => trivial) ?_ ?_
        · intro y hy S' K l hK
          walk_at "mw"
          refine ih j (by omega) (by omega) ((hrs.mem hy).x l.x) fun S'' l'' => ?_
          walk_at "mw"
          exact hK _ l''
        · intro S' l a ha'
          walk_at "mw"
          refine ⟨_, blsOf_map rs, ?_⟩
          have : termB c (.tup (.str w :: rs)) = (rs.map fun d => termB c d).all id := by
            simp only [termB, ha, decide_true, Bool.true_and, termBs_all, List.all_map]; rfl
          rw [← this]; exact q _ (l.trans (Le.put ha'))
      | _ =>
        walk_at "mw"
        rw [← stop (by simp)]; exact q _ Le.refl
  | _ =>
    walk_at "mw"
    refine sp_is_variable (by omega) hw ?_
    walk_at "mw"
    exact q _ Le.refl
theorem sp_law_is_term {c : List (Str × Int)} {p : Addr} {B m : Nat} (hm : m ≤ sizeLine) : ∀ (n : Nat) {k : Nat} {d : D} {S : Sto} {X : XPost} {Q : Post}, n + 2 ≤ k → Dat p S d B n m → (∀ S', Le S S' → Q (.bl (termB c d)) S') →
    W F0 G0 k (PySem.Str.ofString "_law_is_term") [consT c, d] S X Q := by
  intro n
  induction n using Nat.strongRecOn with
  | _ n ih =>
  intro k d S X Q hk hd q
  have hw := hd.dw hm
  refine W_call (by omega) F0__law_is_term rfl ?_
  simp only [fn__law_is_term]
  cases d with
  | ref a =>
    obtain ⟨na, u, j, hu, rfl, hds⟩ := hd.ref
    walk_at "mw"
    rw [hu]
    walk_at "mw"
    refine sp_law_is_integer (by omega) hw ?_
    walk_at "mw"
    exact q _ Le.refl
  | tup u =>
    obtain ⟨j, rfl, hds⟩ := hd.un
    walk_at "mw"
    cases u with
    | nil =>
      walk_at "mw"
      rw [if_pos (by simp)]
      walk_at "mw"
      exact q _ Le.refl
    | cons x rs =>
      walk_at "mw"
      rw [if_neg (by simp; omega)]
      have hx := hds.get (i := 0) rfl
      have stop : (∀ w, x ≠ .str w) → termB c (.tup (x :: rs)) = false := by
        intro h; cases x <;> simp [termB] at h ⊢
      cases x with
      | ref a =>
        obtain ⟨na, u, j, hu, rfl, _⟩ := hx.ref
        walk_at "mw"
        rw [hu]
        walk_at "mw"
        rw [← stop (by simp)]; exact q _ Le.refl
      | str w =>
        walk_at "mw"
        refine sp_law_arity (by omega) ?_
        walk_at "mw"
        rw [int_sub1, pEq_opt]
        by_cases ha : c.lookup w = some (rs.length : Int)
        case neg =>
          simp only [ha, decide_false]
          walk_at "mw"
          have : termB c (.tup (.str w :: rs)) = false := by simp only [termB, ha, decide_false, Bool.false_and]
          rw [← this]; exact q _ Le.refl
        simp only [ha, decide_true]
        walk_at "mw"
        rw [cutD_1]
        have hrs : Dats p S rs B j m := hds.drop 1
        refine lc_fm (fun d => if termB c d = true then none else some d) (Nat.le_trans hrs.len hm) (fun _ _ => trivial) ?_ ?_
        · intro y hy S' K l hK
          walk_at "mw"
          refine ih j (by omega) (by omega) ((hrs.mem hy).x l.x) fun S'' l'' => ?_
          walk_at "mw"
          have := hK _ l''
          cases hy : termB c y
          · rw [if_neg (by rw [hy]; simp)] at this
            walk_at "mw"
            exact this
          · rw [if_pos hy] at this
            walk_at "mw"
            exact this
        · intro S' l a ha'
          walk_at "mw"
          have : termB c (.tup (.str w :: rs)) = decide (((rs.filterMap fun d => if termB c d = true then none else some d).length : Int) = 0) := by
            simp only [termB, ha, decide_true, Bool.true_and, termBs_all, ofNat_zero_iff]
            clear hrs hds hd hw hx ha stop q
            induction rs with
            | nil => rfl
            | cons y r ih2 =>
              rw [List.all_cons, List.filterMap_cons]
              cases hy : termB c y <;> simp [ih2]
          rw [← this]; exact q _ (l.trans (Le.put ha'))
      | _ =>
        walk_at "mw"
        rw [← stop (by simp)]; exact q _ Le.refl
  | int i =>
    walk_at "mw"
    refine sp_law_is_integer (by omega) hw ?_
    walk_at "mw"
    exact q _ Le.refl
  | _ =>
    walk_at "mw"
    refine sp_law_is_integer (by omega) hw ?_
    walk_at "mw"
    exact q _ Le.refl
theorem sp_occurrences : ∀ (n : Nat) {k : Nat} {t : Tm} {S : Sto} {X : XPost} {Q : Post}, t.ht ≤ n → n ≤ k → t.size ≤ sizeLine → (∀ S' a, S a = none → Le S S' → S' a = some (.lst (t.occ.map .int)) → Q (.ref a) S') →
    W F0 G0 k (PySem.Str.ofString "occurrences") [t.d] S X Q := by
  intro n
  induction n with
  | zero => intro k t S X Q h; cases t <;> simp only [Tm.ht] at h <;> omega
  | succ n ih =>
  intro k t S X Q hn hk hz q
  refine W_call (by omega) F0_occurrences rfl ?_
  simp only [fn_occurrences]
  cases t with
  | var i =>
    simp only [Tm.d]
    walk_at "mw"
    intro a ha
    walk_at "mw"
    exact q _ _ ha (Le.put ha) put_same
  | app w ts =>
    simp only [Tm.d, Tm.ht] at hn ⊢
    walk_at "mw"
    intro a ha
    walk_at "mw"
    rw [cutD_1]
    refine for_inv (fun pre σ S' => Le S S' ∧ ∃ us x, us <+: ts ∧ pre = Tm.ds us ∧ S' a = some (.lst ((Tm.occs us).map .int)) ∧ σ = [some (.tup (.str w :: Tm.ds ts)), some (.ref a), x]) ⟨Le.put ha, [], none, List.nil_prefix, rfl, put_same, rfl⟩ (fun _ _ _ _ => trivial) ?_ ?_
    · rintro pre x post σ S' K e ⟨l, us, x0, ⟨r, hr⟩, rfl, hs, rfl⟩ hK
      rw [← hr, Tm.ds_map, Tm.ds_map, List.map_append, List.append_cancel_left_eq] at e
      cases r with
      | nil => cases e
      | cons t r =>
        simp only [List.map_cons, List.cons.injEq] at e
        obtain ⟨rfl, _⟩ := e
        have ht : t ∈ ts := by rw [← hr]; simp
        have hsz := Tm.size_mem ht
        simp only [Tm.size] at hz
        walk_at "mw"
        rw [hs]
        walk_at "mw"
        refine ih (Tm.hts_le.mp (by omega : Tm.hts ts ≤ n) t ht) (by omega) (by omega) fun S2 b hb l2 hs2 => ?_
        walk_at "mw"
        rw [l2 _ _ hs, hs2]
        walk_at "mw"
        have h1 := Tm.occs_len us
        have h2 := t.occ_len
        have h3 : Tm.sizes ts = Tm.sizes us + (t.size + Tm.sizes r) := by rw [← hr, Tm.sizes_append, Tm.sizes]
        refine ⟨by omega, ?_⟩
        refine hK _ _ ⟨Le.put2 ha (l.trans l2), us ++ [t], _, ⟨r, by rw [← hr]; simp⟩, by simp [Tm.ds_map], ?_, rfl⟩
        rw [put_same, Tm.occs_append, List.map_append]
        simp [Tm.occs]
    · rintro σ S' ⟨l, us, x0, ⟨r, hr⟩, e, hs, rfl⟩
      walk_at "mw"
      have : us = ts := by
        have := congrArg List.length e
        rw [Tm.ds_map, Tm.ds_map, List.length_map, List.length_map] at this
        have h2 := congrArg List.length hr
        rw [List.length_append] at h2
        have : r = [] := List.length_eq_zero_iff.mp (by omega)
        rw [← hr, this, List.append_nil]
      subst this
      exact q _ _ ha l hs
theorem sp_law_occurrences : ∀ (n : Nat) {k : Nat} {t : Tm} {S : Sto} {X : XPost} {Q : Post}, t.ht ≤ n → n + 1 ≤ k → t.size ≤ sizeLine → (∀ S' a, S a = none → Le S S' → S' a = some (.lst (t.occ.map .int)) → Q (.ref a) S') →
    W F0 G0 k (PySem.Str.ofString "_law_occurrences") [t.d] S X Q := by
  intro n
  induction n with
  | zero => intro k t S X Q h; cases t <;> simp only [Tm.ht] at h <;> omega
  | succ n ih =>
  intro k t S X Q hn hk hz q
  refine W_call (by omega) F0__law_occurrences rfl ?_
  simp only [fn__law_occurrences]
  walk_at "mw"
  refine sp_is_integer (by omega) (fun a e => by cases t <;> cases e) ?_
  cases t with
  | var i =>
    simp only [Tm.d]
    walk_at "mw"
    intro a ha
    walk_at "mw"
    exact q _ _ ha (Le.put ha) put_same
  | app w ts =>
    simp only [Tm.d, Tm.ht] at hn ⊢
    walk_at "mw"
    intro a ha
    walk_at "mw"
    rw [cutD_1]
    refine for_inv (fun pre σ S' => Le S S' ∧ ∃ us x b, us <+: ts ∧ pre = Tm.ds us ∧ S b = none ∧ S' b = some (.lst ((Tm.occs us).map .int)) ∧ σ = [some (.tup (.str w :: Tm.ds ts)), some (.ref b), x]) ⟨Le.put ha, [], none, a, List.nil_prefix, rfl, ha, put_same, rfl⟩ (fun _ _ _ _ => trivial) ?_ ?_
    · rintro pre x post σ S' K e ⟨l, us, x0, b0, ⟨r, hr⟩, rfl, hb0, hs, rfl⟩ hK
      rw [← hr, Tm.ds_map, Tm.ds_map, List.map_append, List.append_cancel_left_eq] at e
      cases r with
      | nil => cases e
      | cons t r =>
        simp only [List.map_cons, List.cons.injEq] at e
        obtain ⟨rfl, _⟩ := e
        have ht : t ∈ ts := by rw [← hr]; simp
        have hsz := Tm.size_mem ht
        simp only [Tm.size] at hz
        walk_at "mw"
        refine ih (Tm.hts_le.mp (by omega : Tm.hts ts ≤ n) t ht) (by omega) (by omega) fun S2 b hb l2 hs2 => ?_
        walk_at "mw"
        rw [l2 _ _ hs, hs2]
        walk_at "mw"
        have h1 := Tm.occs_len us
        have h2 := t.occ_len
        have h3 : Tm.sizes ts = Tm.sizes us + (t.size + Tm.sizes r) := by rw [← hr, Tm.sizes_append, Tm.sizes]
        refine ⟨by omega, ?_⟩
        intro e1 he1
        walk_at "mw"
        have l3 := l.trans (l2.trans (Le.put (o := .lst (List.map D.int (Tm.occs us) ++ List.map D.int t.occ)) he1))
        have he0 : S e1 = none := by
          cases e : S e1 with
          | none => rfl
          | some o => rw [(l.trans l2) _ _ e] at he1; cases he1
        refine hK _ _ ⟨l3, us ++ [t], _, e1, ⟨r, by rw [← hr]; simp⟩, by simp [Tm.ds_map], he0, ?_, rfl⟩
        rw [put_same, Tm.occs_append, List.map_append]
        simp [Tm.occs]
    · rintro σ S' ⟨l, us, x0, b0, ⟨r, hr⟩, e, hb0, hs, rfl⟩
      walk_at "mw"
      have : us = ts := by
        have := congrArg List.length e
        rw [Tm.ds_map, Tm.ds_map, List.length_map, List.length_map] at this
        have h2 := congrArg List.length hr
        rw [List.length_append] at h2
        have : r = [] := List.length_eq_zero_iff.mp (by omega)
        rw [← hr, this, List.append_nil]
      subst this
      exact q _ _ hb0 l hs

mutual
def sameP : PyData → PyData → Bool
  | .tuple a, .tuple b => samePs a b
  | .list a, .list b => samePs a b
  | .none, .none => true
  | .bool a, .bool b => decide (a = b)
  | .int a, .int b => decide (a = b)
  | .str a, .str b => decide (a = b)
  | _, _ => false
def samePs : List PyData → List PyData → Bool
  | [], [] => true
  | x :: xs, y :: ys => sameP x y && samePs xs ys
  | _, _ => false
end
theorem samePs_len : ∀ {a b : List PyData}, a.length ≠ b.length → samePs a b = false
  | [], [], h => absurd rfl h
  | [], _ :: _, _ => rfl
  | _ :: _, [], _ => rfl
  | x :: xs, y :: ys, h => by
    have := samePs_len (a := xs) (b := ys) (fun e => h (by simp [e]))
    simp only [samePs, this, Bool.and_false]
theorem samePs_get : ∀ {a b : List PyData}, a.length = b.length → samePs a b = (List.range b.length).all fun i => sameP (a.getD i .none) (b.getD i .none)
  | [], [], _ => rfl
  | [], _ :: _, h => by simp at h
  | _ :: _, [], h => by simp at h
  | x :: xs, y :: ys, h => by
    have ih := samePs_get (a := xs) (b := ys) (by simpa using h)
    rw [List.length_cons, List.range_succ_eq_map, List.all_cons, List.all_map]
    simp only [samePs, ih]
    rfl
mutual
theorem sameP_refl {S : Sto} : ∀ {p : PyData} {d : D}, Pd S d p → sameP p p = true
  | .none, _, _ => rfl
  | .bool _, _, _ => by simp [sameP]
  | .int _, _, _ => by simp [sameP]
  | .str _, _, _ => by simp [sameP]
  | .tuple ps, _, h => by cases h with | tup h => simp only [sameP]; exact samePs_refl h
  | .list ps, _, h => by cases h with | lst e h => simp only [sameP]; exact samePs_refl h
  | .dict _, _, h => by cases h
theorem samePs_refl {S : Sto} : ∀ {ps : List PyData} {ds : List D}, Pds S ds ps → samePs ps ps = true
  | [], _, _ => rfl
  | p :: ps, _, h => by cases h with | cons a b => simp only [samePs, sameP_refl a, samePs_refl b, Bool.and_self]
end
theorem Pds.at {S : Sto} {ds : List D} {qs : List PyData} {i : Nat} (h : Pds S ds qs) (hi : i < ds.length) : ∃ d, L2.atI ds (i : Int) = some d ∧ Pd S d (qs.getD i .none) ∧ qs.getD i .none ∈ qs := by
  obtain ⟨q, e, hd⟩ := h.get (List.getElem?_eq_getElem hi)
  refine ⟨_, by rw [atI_n, List.getElem?_eq_getElem hi], ?_⟩
  rw [List.getD_eq_getElem?_getD, e]
  exact ⟨hd, List.mem_of_getElem? e⟩
theorem same_count {a b : List PyData} : decide ((((rgOf 0 (b.length : Int)).filterMap fun d => if sameP (a.getD (intD d).toNat .none) (b.getD (intD d).toNat .none) = true then none else some d).length : Int) = 0) = (List.range b.length).all fun i => sameP (a.getD i .none) (b.getD i .none) := by
  simp only [ofNat_zero_iff]
  unfold rgOf
  rw [show ((b.length : Int) - 0).toNat = b.length by omega, List.filterMap_map]
  have : ∀ l : List Nat, decide ((l.filterMap ((fun d => if sameP (a.getD (intD d).toNat .none) (b.getD (intD d).toNat .none) = true then none else some d) ∘ fun (k : Nat) => D.int (0 + (k : Int)))).length = 0) = l.all fun i => sameP (a.getD i .none) (b.getD i .none) := by
    intro l
    induction l with
    | nil => rfl
    | cons i r ih =>
      rw [List.all_cons, List.filterMap_cons, ← ih]
      simp only [Function.comp, intD, Int.zero_add, Int.toNat_natCast]
      cases h : sameP (a.getD i .none) (b.getD i .none) <;> simp [h]
  exact this _
set_option maxHeartbeats 2000000 in
theorem sp_same : ∀ (n : Nat) {k : Nat} {x y : D} {p q : PyData} {S : Sto} {X : XPost} {Q : Post}, n + 1 ≤ k → Pd S x p → Pd S y q → q.depth ≤ n → q.weight ≤ sizeLine → p.weight ≤ sizeLine → (∀ S', Le S S' → Q (.bl (sameP p q)) S') →
    W F0 G0 k (PySem.Str.ofString "_law_same") [x, y] S X Q := by
  intro n
  induction n using Nat.strongRecOn with
  | _ n ih =>
  intro k x y p q S X Q hk hx hy hn hw hw' hQ
  refine W_call (by omega) F0__law_same rfl ?_
  simp only [fn__law_same]
  have hsz : (sizeLine : Int) < 2 ^ 62 := by decide
  cases hy with
  | tup hy =>
    rename_i ds qs
    cases hx with
    | tup hx =>
      rename_i es ps
      walk_at "mz"
      simp only [PyData.weight] at hw hw'
      simp only [PyData.depth] at hn
      by_cases hl : es.length = ds.length
      case neg =>
        rw [decide_eq_false (fun e => hl (by exact_mod_cast e))]
        walk_at "mz"
        have : sameP (.tuple ps) (.tuple qs) = false := by simp only [sameP]; exact samePs_len (by rw [← hx.length, ← hy.length]; exact hl)
        rw [← this]; exact hQ _ Le.refl
      rw [decide_eq_true (by exact_mod_cast hl)]
      walk_at "mz"
      have hqz := weightAll_len (qs := qs)
      rw [← hy.length] at hqz
      refine ⟨⟨by omega, by omega⟩, ?_⟩
      rw [hy.length]
      refine lc_fm (fun d => if sameP (ps.getD (intD d).toNat .none) (qs.getD (intD d).toNat .none) = true then none else some d) (by rw [rg_len, ← hy.length]; omega) (fun _ _ => trivial) ?_ ?_
      · intro z hz S1 K l1 hK
        obtain ⟨i, hi, rfl⟩ := rg_mem hz
        walk_at "mz"
        obtain ⟨d1, e1, h1, m1⟩ := hx.at (i := i) (by rw [hl, hy.length]; exact hi)
        obtain ⟨d2, e2, h2, m2⟩ := hy.at (i := i) (by rw [hy.length]; exact hi)
        refine ⟨_, e1, ?_⟩
        walk_at "mz"
        refine ⟨_, e2, ?_⟩
        walk_at "mz"
        have dp := depthAll_le.mp (Nat.le_refl (PyData.depthAll qs)) _ m2
        refine ih (n - 1) (by omega) (by omega) (h1.le l1) (h2.le l1) (by omega) (Nat.le_trans (weightAll_mem m2) hw) (Nat.le_trans (weightAll_mem m1) hw') fun S2 l2 => ?_
        have hK2 : K (if sameP (ps.getD i .none) (qs.getD i .none) = true then none else some (.int i)) S2 := hK S2 l2
        walk_at "mz"
        cases hs : sameP (ps.getD i .none) (qs.getD i .none)
        · rw [if_neg (by rw [hs]; simp)] at hK2
          walk_at "mz"
          exact hK2
        · rw [if_pos hs] at hK2
          walk_at "mz"
          exact hK2
      · intro S1 l1 a ha
        walk_at "mz"
        rw [same_count, ← samePs_get (by rw [← hx.length, ← hy.length]; exact hl)]
        have := hQ _ (l1.trans (Le.put (o := .lst ((rgOf 0 (qs.length : Int)).filterMap fun d => if sameP (ps.getD (intD d).toNat .none) (qs.getD (intD d).toNat .none) = true then none else some d)) ha))
        simp only [sameP] at this
        exact this
    | lst e _ =>
      walk_at "mz"
      rw [e]
      walk_at "mz"
      exact hQ _ Le.refl
    | _ =>
      walk_at "mz"
      exact hQ _ Le.refl
  | lst e' hy =>
    rename_i a' ds qs
    cases hx with
    | lst e hx =>
      rename_i a es ps
      walk_at "mz"
      repeat ((first | rw [e] | rw [e']); walk_at "mz")
      simp only [PyData.weight] at hw hw'
      simp only [PyData.depth] at hn
      by_cases hl : es.length = ds.length
      case neg =>
        rw [decide_eq_false (fun e => hl (by exact_mod_cast e))]
        walk_at "mz"
        have : sameP (.list ps) (.list qs) = false := by simp only [sameP]; exact samePs_len (by rw [← hx.length, ← hy.length]; exact hl)
        rw [← this]; exact hQ _ Le.refl
      rw [decide_eq_true (by exact_mod_cast hl)]
      walk_at "mz"
      repeat ((first | rw [e] | rw [e']); walk_at "mz")
      have hqz := weightAll_len (qs := qs)
      rw [← hy.length] at hqz
      refine ⟨⟨by omega, by omega⟩, ?_⟩
      rw [hy.length]
      refine lc_fm (fun d => if sameP (ps.getD (intD d).toNat .none) (qs.getD (intD d).toNat .none) = true then none else some d) (by rw [rg_len, ← hy.length]; omega) (fun _ _ => trivial) ?_ ?_
      · intro z hz S1 K l1 hK
        obtain ⟨i, hi, rfl⟩ := rg_mem hz
        walk_at "mz"
        obtain ⟨d1, e1, h1, m1⟩ := hx.at (i := i) (by rw [hl, hy.length]; exact hi)
        obtain ⟨d2, e2, h2, m2⟩ := hy.at (i := i) (by rw [hy.length]; exact hi)
        rw [l1 _ _ e]
        walk_at "mz"
        refine ⟨_, e1, ?_⟩
        walk_at "mz"
        rw [l1 _ _ e']
        walk_at "mz"
        refine ⟨_, e2, ?_⟩
        walk_at "mz"
        have dp := depthAll_le.mp (Nat.le_refl (PyData.depthAll qs)) _ m2
        refine ih (n - 1) (by omega) (by omega) (h1.le l1) (h2.le l1) (by omega) (Nat.le_trans (weightAll_mem m2) hw) (Nat.le_trans (weightAll_mem m1) hw') fun S2 l2 => ?_
        have hK2 : K (if sameP (ps.getD i .none) (qs.getD i .none) = true then none else some (.int i)) S2 := hK S2 l2
        walk_at "mz"
        cases hs : sameP (ps.getD i .none) (qs.getD i .none)
        · rw [if_neg (by rw [hs]; simp)] at hK2
          walk_at "mz"
          exact hK2
        · rw [if_pos hs] at hK2
          walk_at "mz"
          exact hK2
      · intro S1 l1 a ha
        walk_at "mz"
        rw [same_count, ← samePs_get (by rw [← hx.length, ← hy.length]; exact hl)]
        have := hQ _ (l1.trans (Le.put (o := .lst ((rgOf 0 (qs.length : Int)).filterMap fun d => if sameP (ps.getD (intD d).toNat .none) (qs.getD (intD d).toNat .none) = true then none else some d)) ha))
        simp only [sameP] at this
        exact this
    | _ =>
      walk_at "mz"
      repeat (rw [e']; walk_at "mz")
      exact hQ _ Le.refl
  | non =>
    cases hx with
    | lst e _ =>
      walk_at "mz"
      exact hQ _ Le.refl
    | _ =>
      walk_at "mz"
      exact hQ _ Le.refl
  | bl b =>
    cases hx with
    | lst e _ =>
      walk_at "mz"
      repeat ((first | rw [e]); walk_at "mz")
      exact hQ _ Le.refl
    | _ =>
      walk_at "mz"
      exact hQ _ Le.refl
  | int i =>
    cases hx with
    | lst e _ =>
      walk_at "mz"
      repeat ((first | rw [e]); walk_at "mz")
      exact hQ _ Le.refl
    | _ =>
      walk_at "mz"
      exact hQ _ Le.refl
  | str i =>
    cases hx with
    | lst e _ =>
      walk_at "mz"
      repeat ((first | rw [e]); walk_at "mz")
      exact hQ _ Le.refl
    | _ =>
      walk_at "mz"
      exact hQ _ Le.refl

theorem sp_pickL {k : Nat} (hk : 3 ≤ k) {p b a : Addr} {us : List D} {S : Sto} {X : XPost} {Q : Post} (hp : Pool S p b) (ha : S a = some (.lst us)) (na : a ≠ p) (h0 : 0 < us.length) (h1 : us.length < 2 ^ 64) (q : ∀ S' d, d ∈ us → LeX p S S' → Pool S' p b → Q d S') :
    W F0 G0 k (PySem.Str.ofString "_law_pick") [.ref p, .ref a] S X Q := by
  refine W_call (by omega) F0__law_pick rfl ?_
  simp only [fn__law_pick]
  walk_at "mz"
  rw [ha]
  walk_at "mz"
  refine sp_draw (by omega) hp (by omega) (by omega) fun S' i i0 i1 l P' => ?_
  walk_at "mz"
  rw [l _ _ na ha]
  walk_at "mz"
  have hn : i.toNat < us.length := by omega
  refine ⟨us[i.toNat], by rw [atI_of i0, List.getElem?_eq_getElem hn], ?_⟩
  walk_at "mz"
  exact q S' _ (List.getElem_mem hn) l P'
/-- constructors in order -/
structure ConsOk (c : List (Str × Int)) : Prop where
  len : c.length ≤ 5
  two : 2 ≤ c.length
  nd : (c.map Prod.fst).Nodup
  wd : ∀ z ∈ c, wordB z.1 = true
  ar : ∀ z ∈ c, 0 ≤ z.2 ∧ z.2 ≤ 2
  zero : ∃ z ∈ c, z.2 = 0
theorem lookup_mem {c : List (Str × Int)} (h : (c.map Prod.fst).Nodup) {z : Str × Int} (hz : z ∈ c) : c.lookup z.1 = some z.2 := by
  induction c with
  | nil => cases hz
  | cons y r ih =>
    obtain ⟨y1, y2⟩ := y
    rw [List.map_cons, List.nodup_cons] at h
    rcases List.mem_cons.mp hz with rfl | hz
    · simp
    · rw [List.lookup_cons, beq_eq_false_iff_ne.mpr (fun e => h.1 (by have e : z.1 = y1 := e; show y1 ∈ _; rw [← e]; exact List.mem_map_of_mem (f := Prod.fst) hz))]
      exact ih h.2 hz
theorem mem_lookup {c : List (Str × Int)} {w : Str} {a : Int} (h : c.lookup w = some a) : (w, a) ∈ c := mem_of_lookup h
mutual
theorem Tm.size_le {c : List (Str × Int)} (hc : ∀ z ∈ c, z.2 ≤ 2) : ∀ {t : Tm}, t.ok c = true → t.size + 1 ≤ 2 ^ t.ht
  | .var _, _ => by simp [Tm.size, Tm.ht]
  | .app w ts, h => by
    simp only [Tm.ok, Bool.and_eq_true, decide_eq_true_eq] at h
    have h2 := Tm.sizes_le hc h.2
    have hl := hc _ (mem_lookup h.1)
    simp only [Tm.size, Tm.ht]
    have e : 2 ^ (1 + Tm.hts ts) = 2 * 2 ^ Tm.hts ts := by rw [Nat.pow_add]
    rw [e]
    have hlen : ts.length ≤ 2 := by simp only at hl; omega
    have h3 : ts.length * (2 ^ Tm.hts ts) ≤ 2 * (2 ^ Tm.hts ts) := Nat.mul_le_mul_right _ hlen
    have hp : 1 ≤ 2 ^ Tm.hts ts := Nat.one_le_two_pow
    cases ts with
    | nil => simp only [Tm.sizes]; omega
    | cons t r =>
      simp only [List.length_cons] at h2 h3 hlen
      have : r.length = 0 ∨ r.length = 1 := by omega
      rcases this with e | e <;> rw [e] at h2 h3 <;> omega
theorem Tm.sizes_le {c : List (Str × Int)} (hc : ∀ z ∈ c, z.2 ≤ 2) : ∀ {ts : List Tm}, Tm.oks c ts = true → Tm.sizes ts + ts.length ≤ ts.length * 2 ^ Tm.hts ts
  | [], _ => by simp [Tm.sizes]
  | t :: ts, h => by
    simp only [Tm.oks, Bool.and_eq_true] at h
    have h1 := Tm.size_le hc h.1
    have h2 := Tm.sizes_le hc h.2
    simp only [Tm.sizes, Tm.hts, List.length_cons]
    have a1 : 2 ^ t.ht ≤ 2 ^ max t.ht (Tm.hts ts) := Nat.pow_le_pow_right (by decide) (Nat.le_max_left ..)
    have a2 : 2 ^ Tm.hts ts ≤ 2 ^ max t.ht (Tm.hts ts) := Nat.pow_le_pow_right (by decide) (Nat.le_max_right ..)
    have a3 : ts.length * 2 ^ Tm.hts ts ≤ ts.length * 2 ^ max t.ht (Tm.hts ts) := Nat.mul_le_mul_left _ a2
    rw [Nat.add_mul, Nat.one_mul]
    omega
end
theorem sp_law_term {p b v : Addr} {V : List Int} {c : List (Str × Int)} (hc : ConsOk c) (hV : ∀ i ∈ V, 0 ≤ i) (hVl : V.length ≤ 1000) (nv : v ≠ p) : ∀ (n : Nat) {k : Nat} {S : Sto} {X : XPost} {Q : Post}, n + 3 ≤ k → 1 ≤ n → Pool S p b → S v = some (.lst (V.map .int)) →
    (∀ S' (t : Tm), LeX p S S' → Pool S' p b → t.ok c = true → t.ht ≤ n → (∀ i ∈ t.occ, i ∈ V) → Q t.d S') → W F0 G0 k (PySem.Str.ofString "_law_term") [.ref p, consT c, .ref v, .int n] S X Q := by
  intro n
  induction n with
  | zero => intro k S X Q _ h; omega
  | succ n ih =>
  intro k S X Q hk hn hp hv q
  have hsz : sizeLine = 16777216 := by decide
  have hcl := hc.len
  refine W_call (by omega) F0__law_term rfl ?_
  -- the second part
  have part : ∀ S1, LeX p S S1 → Pool S1 p b → wpB (W F0 G0 (k - 1)) G0 (fn__law_term.body.drop 1) { nx := fun _ S' => Q .non S', rt := Q, ex := X } [some (.ref p), some (consT c), some (.ref v), some (.int (n + 1 : Nat)), none, none] S1 := by
    intro S1 l1 P1
    simp only [fn__law_term, List.drop_succ_cons, List.drop_zero, consT]
    walk_at "mz"
    refine lc_fm (fun d => if intD (sndD d) = 0 ∨ 1 ≤ n then some d else none) (by rw [List.length_map]; omega) (fun _ _ => trivial) ?_ ?_
    · intro x hx S2 K l2 hK
      obtain ⟨z, hz, rfl⟩ := List.mem_map.mp hx
      walk_at "mz"
      have hK2 : K (if z.2 = 0 ∨ 1 ≤ n then some (D.tup [.str z.1, .int z.2]) else none) S2 := hK S2 Le.refl
      by_cases hz0 : z.2 = 0
      · rw [if_pos (.inl hz0)] at hK2
        simp only [hz0, decide_true]
        walk_at "mz"
        exact hK2
      · simp only [hz0, decide_false]
        walk_at "mz"
        by_cases hn1 : 1 ≤ n
        · rw [if_pos (.inr hn1)] at hK2
          rw [if_pos (by omega)]; walk_at "mz"; exact hK2
        · rw [if_neg (by rintro (h | h) <;> omega)] at hK2
          rw [if_neg (by omega)]; walk_at "mz"; exact hK2
    intro S2 l2 a ha
    walk_at "mz"
    have na := (P1.le l2).ne ha
    generalize hus : (c.map fun z => D.tup [.str z.1, .int z.2]).filterMap (fun d => if intD (sndD d) = 0 ∨ 1 ≤ n then some d else none) = us
    have hmem : ∀ d ∈ us, ∃ z ∈ c, d = .tup [.str z.1, .int z.2] ∧ (z.2 = 0 ∨ 1 ≤ n) := by
      intro d hd
      rw [← hus] at hd
      obtain ⟨y, hy, he⟩ := List.mem_filterMap.mp hd
      obtain ⟨z, hz, rfl⟩ := List.mem_map.mp hy
      by_cases hh : z.2 = 0 ∨ 1 ≤ n
      · rw [if_pos (show intD (sndD (.tup [.str z.1, .int z.2])) = 0 ∨ 1 ≤ n from hh)] at he
        cases he; exact ⟨z, hz, rfl, hh⟩
      · rw [if_neg (show ¬ (intD (sndD (.tup [.str z.1, .int z.2])) = 0 ∨ 1 ≤ n) from hh)] at he
        cases he
    have hpos : 0 < us.length := by
      obtain ⟨z, hz, hz0⟩ := hc.zero
      refine List.length_pos_of_mem (a := D.tup [.str z.1, .int z.2]) ?_
      rw [← hus]
      refine List.mem_filterMap.mpr ⟨_, List.mem_map_of_mem hz, ?_⟩
      rw [if_pos (show intD (sndD (.tup [.str z.1, .int z.2])) = 0 ∨ 1 ≤ n from .inl hz0)]
    have hlen : us.length ≤ 5 := by
      rw [← hus]
      refine Nat.le_trans (List.length_filterMap_le ..) ?_
      rw [List.length_map]; exact hcl
    refine sp_pickL (by omega) ((P1.le l2).put na) put_same na.1 hpos (by omega) fun S3 d hd l3 P3 => ?_
    obtain ⟨z, hz, rfl, hzn⟩ := hmem d hd
    have hza := hc.ar z hz
    walk_at "mz"
    refine ⟨by unfold small; omega, ?_⟩
    walk_at "mz"
    have L3 : LeX p S S3 := l1.trans (l2.x.trans ((Le.put ha).x.trans l3))
    rw [show z.2 = ((z.2.toNat : Nat) : Int) by omega]
    refine lc_inv (fun pre acc S' => LeX p S3 S' ∧ Pool S' p b ∧ ∃ ts : List Tm, acc = ts.map Tm.d ∧ ts.length = pre.length ∧ Tm.oks c ts = true ∧ Tm.hts ts ≤ n ∧ ∀ i ∈ Tm.occs ts, i ∈ V) ⟨LeX.refl, P3, [], rfl, rfl, rfl, by simp [Tm.hts], by simp [Tm.occs]⟩ (by rw [rg_len]; omega) (fun _ _ _ _ => trivial) ?_ ?_
    · rintro pre x post acc S4 K e ⟨l4, P4, ts, rfl, hl4, ho, hh, hoc⟩ hK hN
      have hx : x ∈ rgOf 0 ((z.2.toNat : Nat) : Int) := by rw [e]; simp
      obtain ⟨i, hi, rfl⟩ := rg_mem hx
      have hn1 : 1 ≤ n := by
        rcases hzn with h | h
        · omega
        · exact h
      walk_at "mz"
      rw [show ((n + 1 : Nat) : Int) - 1 = (n : Nat) by omega]
      refine ih (by omega) hn1 P4 ((L3.trans l4) _ _ nv hv) fun S5 t l5 P5 o5 h5 v5 => ?_
      walk_at "mz"
      refine hK _ _ ⟨l4.trans l5, P5, ts ++ [t], by simp, by simp [hl4], ?_, ?_, ?_⟩
      · rw [Tm.oks_all, List.all_append, ← Tm.oks_all, ho]; simp [o5]
      · rw [Tm.hts_le] at hh ⊢
        intro t' ht'
        rcases List.mem_append.mp ht' with h | h
        · exact hh _ h
        · simp at h; subst h; exact h5
      · rw [Tm.occs_append]
        intro i hi
        rcases List.mem_append.mp hi with h | h
        · exact hoc i h
        · exact v5 i (by simpa [Tm.occs] using h)
    · rintro acc S4 ⟨l4, P4, ts, rfl, hl4, ho, hh, hoc⟩
      walk_at "mz"
      intro e he
      walk_at "mz"
      have ne := P4.ne he
      rw [rg_len] at hl4
      refine ⟨by omega, ?_⟩
      walk_at "mz"
      have := q (S4.put e (.lst (ts.map Tm.d))) (.app z.1 ts) ((L3.trans l4).trans (Le.put he).x) (P4.put ne) ?_ ?_ hoc
      · simp only [Tm.d, Tm.ds_map] at this; exact this
      · simp only [Tm.ok, ho, Bool.and_true, decide_eq_true_eq]
        rw [lookup_mem hc.nd hz, hl4]
        congr 1; omega
      · simp only [Tm.ht]; omega
  simp only [fn__law_term, List.drop_succ_cons, List.drop_zero] at part ⊢
  generalize hrest : ([Sm.asg (.one 4) _, _] : List Sm) = rest at part ⊢
  walk_at "mz"
  rw [hv]
  walk_at "mz"
  by_cases hV0 : V = []
  · subst hV0
    rw [if_neg (by simp)]
    walk_at "mz"
    exact part _ LeX.refl hp
  have hVp : 0 < V.length := List.length_pos_iff.mpr hV0
  rw [if_pos (by omega)]
  walk_at "mz"
  refine sp_draw (by omega) hp (by decide) (by decide) fun S1 i i0 i1 l1 P1 => ?_
  walk_at "mz"
  by_cases hi : i = 0
  · rw [if_pos hi]
    walk_at "mz"
    refine sp_pickL (by omega) P1 (l1 _ _ nv hv) nv (by simpa using hVp) (by rw [List.length_map]; omega) fun S2 d hd l2 P2 => ?_
    obtain ⟨j, hj, rfl⟩ := List.mem_map.mp hd
    walk_at "mz"
    exact q _ (.var j) (l1.trans l2) P2 (by simp only [Tm.ok]; exact decide_eq_true (hV j hj)) (by simp only [Tm.ht]; omega) (by simpa [Tm.occ] using hj)
  · rw [if_neg hi]
    walk_at "mz"
    exact part _ l1 P1

mutual
theorem Tm.dat {p : Addr} {S : Sto} {c : List (Str × Int)} {B : Nat} (hB : B < 2 ^ 40) (hc : ∀ z ∈ c, okS z.1 = true ∧ z.1.length ≤ 12) : ∀ {t : Tm}, t.ok c = true → (∀ i ∈ t.occ, i.natAbs ≤ B) → ∃ m, m + 1 ≤ t.size * 55 ∧ Dat p S t.d B t.ht m
  | .var i, _, hv => ⟨40, by simp only [Tm.size]; omega, (Dat.int (hv i (by simp [Tm.occ])) hB).w (Nat.le_refl _) (by simp [Tm.ht]) (Nat.le_refl _)⟩
  | .app w ts, h, hv => by
    simp only [Tm.ok, Bool.and_eq_true, decide_eq_true_eq] at h
    obtain ⟨m, hm, hd⟩ := Tm.dats (p := p) (S := S) hB hc h.2 (fun i hi => hv i (by simpa [Tm.occ] using hi))
    obtain ⟨ho, hl⟩ := hc _ (mem_lookup h.1)
    refine ⟨12 + 1 + m, by simp only [Tm.size]; omega, ?_⟩
    simp only [Tm.d, Tm.ht]
    have := (Dats.cons ((Dat.str ho hl).w (Nat.le_refl _) (Nat.zero_le _) (Nat.le_refl _)) hd).tup
    rw [Nat.add_comm]; exact this
theorem Tm.dats {p : Addr} {S : Sto} {c : List (Str × Int)} {B : Nat} (hB : B < 2 ^ 40) (hc : ∀ z ∈ c, okS z.1 = true ∧ z.1.length ≤ 12) : ∀ {ts : List Tm}, Tm.oks c ts = true → (∀ i ∈ Tm.occs ts, i.natAbs ≤ B) → ∃ m, m ≤ Tm.sizes ts * 55 ∧ Dats p S (Tm.ds ts) B (Tm.hts ts) m
  | [], _, _ => ⟨0, Nat.zero_le _, Dats.nil⟩
  | t :: ts, h, hv => by
    simp only [Tm.oks, Bool.and_eq_true] at h
    obtain ⟨m1, h1, d1⟩ := Tm.dat (p := p) (S := S) hB hc h.1 (fun i hi => hv i (by simp [Tm.occs, hi]))
    obtain ⟨m2, h2, d2⟩ := Tm.dats (p := p) (S := S) hB hc h.2 (fun i hi => hv i (by simp [Tm.occs, hi]))
    refine ⟨m1 + 1 + m2, by simp only [Tm.sizes]; omega, ?_⟩
    simp only [Tm.ds, Tm.hts]
    exact Dats.cons (d1.w (Nat.le_refl _) (Nat.le_max_left ..) (Nat.le_refl _)) (d2.w (Nat.le_refl _) (Nat.le_max_right ..) (Nat.le_refl _))
end
theorem ConsOk.word {c : List (Str × Int)} (h : ConsOk c) : ∀ z ∈ c, okS z.1 = true ∧ z.1.length ≤ 12 := fun z hz => wordB_ok (h.wd z hz)
theorem pEq_data {S : Sto} {x y : D} {p q : PyData} {R : Bool → Prop} (hx : Pd S x p) (hy : Pd S y q) (sx : SeqAt.shaped p = true) (sy : SeqAt.shaped q = true) (r : R (PyData.eqv p q)) : pEq x y S R := .inr ⟨p, q, hx, hy, sx, sy, r⟩
theorem Pds.ints {S : Sto} : ∀ ns : List Int, Pds S (ns.map .int) (ns.map .int)
  | [] => .nil
  | n :: r => .cons (.int n) (Pds.ints r)
theorem ints_can : ∀ ns : List Int, PyData.canLayAll0 (ns.map .int) = true
  | [] => by simp [PyData.canLayAll0]
  | n :: r => by simp [PyData.canLayAll0, PyData.canLay0, ints_can r]
theorem ints_depth : ∀ ns : List Int, PyData.depthAll (ns.map .int) = 0
  | [] => by simp [PyData.depthAll]
  | n :: r => by simp [PyData.depthAll, PyData.depth, ints_depth r]
theorem ints_shaped (ns : List Int) : SeqAt.shaped (.list (ns.map .int)) = true := by
  unfold SeqAt.shaped
  simp [PyData.canLay0, ints_can, PyData.depth, ints_depth]
theorem ints_eqv : ∀ ns ms : List Int, PyData.eqvAll (ns.map .int) (ms.map .int) = decide (ns = ms)
  | [], [] => by simp [PyData.eqvAll]
  | [], m :: ms => by simp [PyData.eqvAll]
  | n :: ns, [] => by simp [PyData.eqvAll]
  | n :: ns, m :: ms => by
    simp only [List.map_cons, PyData.eqvAll, PyData.eqv, ints_eqv ns ms]
    rw [Bool.eq_iff_iff]; simp
theorem pEq_ints {S : Sto} {a b : Addr} {ns ms : List Int} {R : Bool → Prop} (ha : S a = some (.lst (ns.map .int))) (hb : S b = some (.lst (ms.map .int))) (r : R (decide (ns = ms))) : pEq (.ref a) (.ref b) S R := by
  refine pEq_data (.lst ha (Pds.ints ns)) (.lst hb (Pds.ints ms)) (ints_shaped _) (ints_shaped _) ?_
  simp only [PyData.eqv, ints_eqv]; exact r
mutual
def occD : D → List Int
  | .int i => [i]
  | .tup (_ :: rs) => occDs rs
  | _ => []
def occDs : List D → List Int
  | [] => []
  | d :: ds => occD d ++ occDs ds
end
mutual
theorem occD_d : ∀ t : Tm, occD t.d = t.occ
  | .var i => by simp [Tm.d, occD, Tm.occ]
  | .app w ts => by simp only [Tm.d, occD, Tm.occ, occDs_d ts]
theorem occDs_d : ∀ ts : List Tm, occDs (Tm.ds ts) = Tm.occs ts
  | [] => by simp [Tm.ds, occDs, Tm.occs]
  | t :: ts => by simp only [Tm.ds, occDs, Tm.occs, occD_d t, occDs_d ts]
end
def closedB (c : List (Str × Int)) (d : D) : Bool := termB c d && decide (occD d = [])
mutual
theorem Tm.size_dat {p : Addr} {S : Sto} {B n m : Nat} : ∀ {t : Tm}, Dat p S t.d B n m → t.size ≤ m + 1 ∧ t.ht ≤ n + 1
  | .var i, _ => by simp [Tm.size, Tm.ht]
  | .app w ts, h => by
    simp only [Tm.d] at h
    obtain ⟨k, rfl, hd⟩ := h.un
    obtain ⟨q, e, f, x, y⟩ := hd
    cases e with | cons e1 e2 =>
      simp only [fitPs, Bool.and_eq_true] at f
      simp only [PyData.depthAll] at x
      simp only [PyData.weightAll] at y
      have := Tm.sizes_dat (p := p) (S := S) (ts := ts) (B := B) (n := k) (m := m - 1) ⟨_, e2, f.2, by omega, by omega⟩
      simp only [Tm.size, Tm.ht]; omega
theorem Tm.sizes_dat {p : Addr} {S : Sto} {B n m : Nat} : ∀ {ts : List Tm}, Dats p S (Tm.ds ts) B n m → Tm.sizes ts ≤ m ∧ Tm.hts ts ≤ n + 1
  | [], _ => by simp [Tm.sizes, Tm.hts]
  | t :: ts, h => by
    obtain ⟨q, e, f, x, y⟩ := h
    simp only [Tm.ds] at e
    cases e with | cons e1 e2 =>
      rename_i q1 q2
      simp only [fitPs, Bool.and_eq_true] at f
      simp only [PyData.depthAll] at x
      simp only [PyData.weightAll] at y
      have h1 := Tm.size_dat (p := p) (S := S) (t := t) (B := B) (n := n) (m := q1.weight) ⟨_, e1, f.1, by omega, Nat.le_refl _⟩
      have h2 := Tm.sizes_dat (p := p) (S := S) (ts := ts) (B := B) (n := n) (m := PyData.weightAll q2) ⟨_, e2, f.2, by omega, Nat.le_refl _⟩
      simp only [Tm.sizes, Tm.hts]; omega
end
theorem sp_is_closed_term {c : List (Str × Int)} {p : Addr} {B m n : Nat} (hm : m + 1 ≤ sizeLine) {k : Nat} {d : D} {S : Sto} {X : XPost} {Q : Post} (hk : n + 4 ≤ k) (hd : Dat p S d B n m) (q : ∀ S', Le S S' → Q (.bl (closedB c d)) S') :
    W F0 G0 k (PySem.Str.ofString "is_closed_term") [consT c, d] S X Q := by
  refine W_call (by omega) F0_is_closed_term rfl ?_
  simp only [fn_is_closed_term]
  walk_at "mz"
  refine sp_is_term (by omega) n (by omega) hd fun S1 l1 => ?_
  cases h : termB c d
  · walk_at "mz"
    have : closedB c d = false := by simp only [closedB, h, Bool.false_and]
    rw [← this]; exact q _ l1
  walk_at "mz"
  obtain ⟨t, rfl⟩ := termB_of d h
  have hs := Tm.size_dat hd
  refine sp_occurrences (n + 1) hs.2 (by omega) (by omega) fun S2 a ha l2 hs2 => ?_
  walk_at "mz"
  intro e he
  walk_at "mz"
  have ne : a ≠ e := ne_new hs2 he
  refine pEq_ints (ns := t.occ) (ms := []) (by rw [put_ne ne]; exact hs2) put_same ?_
  have : closedB c t.d = decide (t.occ = []) := by simp only [closedB, h, Bool.true_and, occD_d]
  rw [← this]; exact q _ (l1.trans (l2.trans (Le.put he)))

def consL (ns : List Nat) (ar : List Int) : List (Str × Int) := (ns.zip ar).map fun z => (spS z.1, z.2)
theorem consOf_T {ns : List Nat} {ar : List Int} : consOf (ns.zip ar) = consT (consL ns ar) := by
  unfold consOf consT consL
  rw [List.map_map]; rfl
theorem consL_ok {ns : List Nat} {ar : List Int} (hl : ns.length = ar.length) (a2 : 2 ≤ ar.length) (a5 : ar.length ≤ 5) (hn : ns.Nodup) (hb : ∀ n ∈ ns, 0 < n ∧ n ≤ 99246114928149462) (ha : ∀ i ∈ ar, 0 ≤ i ∧ i ≤ 2) (h0 : (0 : Int) ∈ ar) : ConsOk (consL ns ar) := by
  have hz : (ns.zip ar).length = ar.length := by rw [List.length_zip]; omega
  have e1 : (ns.zip ar).map Prod.fst = ns := List.map_fst_zip (by omega)
  have e2 : (ns.zip ar).map Prod.snd = ar := List.map_snd_zip (by omega)
  constructor
  · unfold consL; rw [List.length_map, hz]; exact a5
  · unfold consL; rw [List.length_map, hz]; exact a2
  · unfold consL
    rw [List.map_map]
    have : (ns.zip ar).map (Prod.fst ∘ fun z => (spS z.1, z.2)) = ns.map spS := by
      rw [← congrArg (List.map spS) e1, List.map_map]; rfl
    rw [this, List.nodup_iff_pairwise_ne, List.pairwise_map]
    rw [List.nodup_iff_pairwise_ne] at hn
    exact hn.imp fun ne e => ne (spS_inj e)
  · intro z hz
    obtain ⟨y, hy, rfl⟩ := List.mem_map.mp hz
    have := hb _ (List.of_mem_zip hy).1
    exact spS_word this.1 this.2
  · intro z hz
    obtain ⟨y, hy, rfl⟩ := List.mem_map.mp hz
    exact ha _ (List.of_mem_zip hy).2
  · have : (0 : Int) ∈ (ns.zip ar).map Prod.snd := by rw [e2]; exact h0
    obtain ⟨z, hz, hz0⟩ := List.mem_map.mp this
    exact ⟨_, List.mem_map_of_mem hz, hz0⟩
theorem sp_constructorsT {k : Nat} (hk : 4 ≤ k) {p b : Addr} {S : Sto} {X : XPost} {Q : Post} (hp : Pool S p b) (q : ∀ S' c, LeX p S S' → Pool S' p b → ConsOk c → Q (consT c) S') :
    W F0 G0 k (PySem.Str.ofString "_law_constructors") [.ref p] S X Q :=
  sp_constructors hk hp fun S' ns ar l P hl a2 a5 hn hb ha h0 => by
    rw [consOf_T]; exact q _ _ l P (consL_ok hl a2 a5 hn hb ha h0)
theorem split_at (n : Nat) (b : List Sm) : ∀ R, R = b.drop n → b = b.take n ++ R := fun R h => by rw [h, List.take_append_drop]
theorem k02_t0 {k : Nat} (hk : 30 ≤ k) {p b : Addr} {S : Sto} {N : En} {c : List (Str × Int)} {items : List D} {x0 x1 x3 x4 y5 y6 y7 : Option D} (hp : Pool S p b) (hd : ∀ d ∈ items, Dat p S d (2 ^ 40) 10 (2 ^ 20))
    (q : ∀ S' y5 y6 y7, Le S S' → N.nx [x0, x1, some (consT c), x3, x4, y5, y6, y7] S') :
    wpFor (fun _ => True) (loopB (W F0 G0 k) G0 (.one 5) lb_law_0) items N [x0, x1, some (consT c), x3, x4, y5, y6, y7] S := by
  have hz : sizeLine = 16777216 := by decide
  refine for_inv (fun pre σ S' => Le S S' ∧ ∃ y5 y6 y7, σ = [x0, x1, some (consT c), x3, x4, y5, y6, y7]) ⟨Le.refl, _, _, _, rfl⟩ (fun _ _ _ _ => trivial) ?_ ?_
  · rintro pre x post σ S' K e ⟨l, y5, y6, y7, rfl⟩ hK
    have hx := (hd x (by rw [e]; simp)).x l.x
    -- both lists come out alike
    have fin : ∀ S1, Le S' S1 → ∀ S2, Le S1 S2 → ∀ N' : En, (∀ S3 y7, Le S2 S3 → N'.nx [x0, x1, some (consT c), x3, x4, some x, some (.bl (termB c x)), y7] S3) → wpB (W F0 G0 k) G0 (lb_law_0.drop 2) N' [x0, x1, some (consT c), x3, x4, some x, some (.bl (termB c x)), some (.bl (closedB c x))] S2 := by
      intro S1 l1 S2 l2 N' hN
      simp only [lb_law_0, List.drop_succ_cons, List.drop_zero]
      walk_at "mz"
      have hx2 := hx.x (l1.trans l2).x
      refine sp_is_term (by omega) 10 (by omega) hx2 fun S3 l3 => ?_
      walk_at "mz"
      refine sp_is_closed_term (by omega) (by omega) (hx2.x l3.x) fun S4 l4 => ?_
      walk_at "mz"
      intro a ha
      walk_at "mz"
      intro e he
      walk_at "mz"
      have ne : a ≠ e := ne_new put_same he
      have pd : Pds ((S4.put a (.lst [.bl (termB c x), .bl (closedB c x)])).put e (.lst [.bl (termB c x), .bl (closedB c x)])) [.bl (termB c x), .bl (closedB c x)] [.bool (termB c x), .bool (closedB c x)] := .cons (.bl _) (.cons (.bl _) .nil)
      have p1 := Pd.lst (by rw [put_ne ne, put_same]) pd
      refine sp_same 1 (by omega) p1 (.lst put_same pd) (by simp [PyData.depth, PyData.depthAll]) (by simp [PyData.weight, PyData.weightAll]; omega) (by simp [PyData.weight, PyData.weightAll]; omega) fun S5 l5 => ?_
      rw [sameP_refl p1]
      walk_at "mz"
      exact hN _ _ (l3.trans (l4.trans ((Le.put ha).trans ((Le.put he).trans l5))))
    obtain ⟨R, hR⟩ : ∃ R, R = lb_law_0.drop 2 := ⟨_, rfl⟩
    rw [← hR] at fin
    rw [split_at 2 lb_law_0 R hR]
    simp only [lb_law_0, List.take_succ_cons, List.take_zero, List.cons_append, List.nil_append]
    clear hR
    walk_at "mz"
    refine sp_law_is_term (by omega) 10 (by omega) hx fun S1 l1 => ?_
    walk_at "mz"
    replace fin := fin S1 l1
    cases h : termB c x
    · have ec : closedB c x = false := by simp only [closedB, h, Bool.false_and]
      rw [h, ec] at fin
      walk_at "mz"
      refine fin _ Le.refl _ ?_
      intro S3 y7 l3
      exact hK _ _ ⟨l.trans (l1.trans l3), _, _, _, rfl⟩
    · obtain ⟨t, rfl⟩ := termB_of x h
      have hs := Tm.size_dat hx
      rw [h] at fin
      walk_at "mz"
      refine sp_law_occurrences 11 hs.2 (by omega) (by omega) fun S2 a ha l2 hs2 => ?_
      walk_at "mz"
      rw [hs2]
      walk_at "mz"
      have ec : closedB c t.d = decide ((t.occ.length : Int) = 0) := by
        simp only [closedB, h, Bool.true_and, occD_d, ofNat_zero_iff, List.length_eq_zero_iff]
      rw [ec] at fin
      refine fin _ l2 _ ?_
      intro S3 y7 l3
      exact hK _ _ ⟨l.trans (l1.trans (l2.trans l3)), _, _, _, rfl⟩
  · rintro σ S' ⟨l, y5, y6, y7, rfl⟩
    exact q _ _ _ _ l
theorem law_k02_truek {k : Nat} (hk : 60 ≤ k) (ns : List Int) (hns : ns.length ≤ 63) : W F0 G0 k (PySem.Str.ofString "law") [.scr ns] (fun _ => none) X0 (fun d _ => d = .bl true) := by
  have hz : sizeLine = 16777216 := by decide
  refine W_call (by omega) F0_law rfl ?_
  simp only [fn_law]
  walk_at "mz"
  refine sp_pool (by omega) fun S1 p b hp l1 P1 => ?_
  walk_at "mz"
  refine sp_constructorsT (by omega) P1 fun S2 c l2 P2 hc => ?_
  walk_at "mz"
  refine ⟨⟨by decide, by decide⟩, ?_⟩
  walk_at "mz"
  refine for_inv (fun pre σ S' => Pool S' p b ∧ LeX p S2 S' ∧ ∃ x3 x4 x5 x6 x7, σ = [some (.scr ns), some (.ref p), some (consT c), x3, x4, x5, x6, x7]) ⟨P2, LeX.refl, _, _, _, _, _, rfl⟩ (fun _ _ _ _ => trivial) ?_ ?_
  · rintro pre x post σ S' K e ⟨P', l', x3, x4, x5, x6, x7, rfl⟩ hK
    walk_at "mz"
    simp only [lb_law_1]
    walk_at "mz"
    refine ⟨⟨by decide, by decide, by decide⟩, ?_⟩
    walk_at "mz"
    intro a ha
    walk_at "mz"
    have na := P'.ne ha
    refine sp_draw (by omega) (P'.put na) (by decide) (by decide) fun S3 j j0 j1 l3 P3 => ?_
    walk_at "mz"
    rw [l3 _ _ na.1 put_same]
    walk_at "mz"
    intro v hv
    walk_at "mz"
    have nv := P3.ne hv
    refine sp_draw (by omega) (P3.put nv) (by decide) (by decide) fun S4 h h0 h1 l4 P4 => ?_
    walk_at "mz"
    have e10 : (10 : Int) ^ (Int.toNat 12) = 1000000000000 := by decide
    have eV : List.take j.toNat [D.int 0, D.int 1, D.int 7, D.int 1000000000000] = ((List.take j.toNat [0, 1, 7, 1000000000000] : List Int)).map .int := by rw [List.map_take]; rfl
    have hV : ∀ i ∈ (List.take j.toNat [0, 1, 7, 1000000000000] : List Int), 0 ≤ i ∧ i ≤ 1000000000000 := by
      intro i hi
      have := (List.take_sublist ..).subset hi
      simp only [List.mem_cons, List.not_mem_nil, or_false] at this
      omega
    have hvs : S4 v = some (.lst ((List.take j.toNat [0, 1, 7, 1000000000000] : List Int).map .int)) := by
      have := l4 _ _ nv.1 put_same
      rw [cutD_to j0, e10, eV] at this
      exact this
    rw [show 1 + h = ((1 + h.toNat : Nat) : Int) by omega]
    refine sp_law_term hc (fun i hi => (hV i hi).1) (by simp; omega) nv.1 (1 + h.toNat) (by omega) (by omega) P4 hvs fun S5 t l5 P5 ok5 h5 v5 => ?_
    walk_at "mz"
    have hsz := Tm.size_le (fun z hz => (hc.ar z hz).2) ok5
    have hp2 : 2 ^ t.ht ≤ 2 ^ 4 := Nat.pow_le_pow_right (by decide) (by omega)
    have dat : ∀ S, Dat p S t.d 1000000000000 4 1000 := fun S => by
      obtain ⟨m, hm, hd⟩ := Tm.dat (p := p) (S := S) (B := 1000000000000) (by decide) hc.word ok5 (fun i hi => by have := hV i (v5 i hi); omega)
      exact hd.w (Nat.le_refl _) (by omega) (by omega)
    refine sp_bent (by decide) 4 (by omega) P5 (dat _) (by decide) fun S6 v1 l6 P6 d6 => ?_
    walk_at "mz"
    refine sp_bent (by decide) 4 (by omega) P6 (dat _) (by decide) fun S7 v2 l7 P7 d7 => ?_
    walk_at "mz"
    have L7 : LeX p S2 S7 := l'.trans ((Le.put ha).x.trans (l3.trans ((Le.put hv).x.trans (l4.trans (l5.trans (l6.trans l7))))))
    have fin : ∀ S8 z (N : En), (∀ σ S, K σ S → N.nx σ S) → LeX p S7 S8 → Pool S8 p b → Dat p S8 z (2 ^ 40) 10 (2 ^ 20) → wpFor (fun _ => True) (loopB (W F0 G0 (k - 1)) G0 (.one 5) lb_law_0) [t.d, v1, v2, z, .int (-1)]
        N [some (.scr ns), some (.ref p), some (consT c), some x, some t.d, x5, x6, x7] S8 := by
      intro S8 z N hN l8 P8 d8
      refine k02_t0 (by omega) P8 ?_ ?_
      · refine lm ?_ (lm ?_ (lm ?_ (lm ?_ (lm ?_ ln))))
        · exact (dat _).w (by decide) (by decide) (by decide)
        · exact ((d6.x l7).x l8).w (by decide) (by decide) (by decide)
        · exact (d7.x l8).w (by decide) (by decide) (by decide)
        · exact d8
        · exact (Dat.int (b := 1) (by decide) (by decide)).w (by decide) (by decide) (by decide)
      · intro S' y5 y6 y7 lq
        exact hN _ _ (hK _ _ ⟨P8.le lq, L7.trans (l8.trans lq.x), _, _, _, _, _, rfl⟩)
    cases t with
    | var i =>
      simp only [Tm.d] at fin ⊢
      walk_at "mz"
      refine fin S7 _ _ (fun σ S h => ?_) LeX.refl P7 ((Dat.bl (b := 0)).w (by decide) (by decide) (by decide))
      walk_at "mz"
      exact h
    | app w ts =>
      obtain ⟨j, ej, dj⟩ := (dat S7).un
      simp only [Tm.d] at fin ⊢
      walk_at "mz"
      intro f hf
      walk_at "mz"
      have nf := P7.ne hf
      refine fin _ _ _ (fun σ S h => ?_) (Le.put hf).x (P7.put nf) ((dj.lst hf nf.1).w (by decide) (by omega) (by decide))
      walk_at "mz"
      exact h
  · rintro σ S' ⟨P', l', x3, x4, x5, x6, x7, rfl⟩
    walk_at "mz"
theorem law_true (ns : List Int) (hns : ns.length ≤ 63) : W F0 G0 200 (PySem.Str.ofString "law") [.scr ns] (fun _ => none) X0 (fun d _ => d = .bl true) := law_k02_truek (by decide) ns hns

end Mp
end
namespace Mp
/-! ## the program of the row -/
section
open PySem L2
def top (i : Nat) : Stmt := PySem.Challenge.pw_casefamilies_k02_terms_told.main.body.getD i (.Pass ⟨0, 0, 0, 0⟩)
theorem tr_is_variable : trB nm_is_variable defNames 200 (defScope (top 1)) (defBody (top 1)) = some fn_is_variable.body := by kernel_rfl
theorem sc_is_variable : FnScope nm_is_variable (nm_is_variable.take fn_is_variable.ps) (defScope (top 1)) := ⟨rfl, rfl, rfl, by decide +kernel, rfl, by decide +kernel, by decide +kernel⟩
theorem tr_arity_of : trB nm_arity_of defNames 200 (defScope (top 2)) (defBody (top 2)) = some fn_arity_of.body := by kernel_rfl
theorem sc_arity_of : FnScope nm_arity_of (nm_arity_of.take fn_arity_of.ps) (defScope (top 2)) := ⟨rfl, rfl, rfl, by decide +kernel, rfl, by decide +kernel, by decide +kernel⟩
theorem tr_is_term : trB nm_is_term defNames 200 (defScope (top 3)) (defBody (top 3)) = some fn_is_term.body := by kernel_rfl
theorem sc_is_term : FnScope nm_is_term (nm_is_term.take fn_is_term.ps) (defScope (top 3)) := ⟨rfl, rfl, rfl, by decide +kernel, rfl, by decide +kernel, by decide +kernel⟩
theorem tr_is_closed_term : trB nm_is_closed_term defNames 200 (defScope (top 4)) (defBody (top 4)) = some fn_is_closed_term.body := by kernel_rfl
theorem sc_is_closed_term : FnScope nm_is_closed_term (nm_is_closed_term.take fn_is_closed_term.ps) (defScope (top 4)) := ⟨rfl, rfl, rfl, by decide +kernel, rfl, by decide +kernel, by decide +kernel⟩
theorem tr_occurrences : trB nm_occurrences defNames 200 (defScope (top 5)) (defBody (top 5)) = some fn_occurrences.body := by kernel_rfl
theorem sc_occurrences : FnScope nm_occurrences (nm_occurrences.take fn_occurrences.ps) (defScope (top 5)) := ⟨rfl, rfl, rfl, by decide +kernel, rfl, by decide +kernel, by decide +kernel⟩
theorem tr__law_same : trB nm__law_same defNames 200 (defScope (top 7)) (defBody (top 7)) = some fn__law_same.body := by kernel_rfl
theorem sc__law_same : FnScope nm__law_same (nm__law_same.take fn__law_same.ps) (defScope (top 7)) := ⟨rfl, rfl, rfl, by decide +kernel, rfl, by decide +kernel, by decide +kernel⟩
theorem tr__law_is_integer : trB nm__law_is_integer defNames 200 (defScope (top 8)) (defBody (top 8)) = some fn__law_is_integer.body := by kernel_rfl
theorem sc__law_is_integer : FnScope nm__law_is_integer (nm__law_is_integer.take fn__law_is_integer.ps) (defScope (top 8)) := ⟨rfl, rfl, rfl, by decide +kernel, rfl, by decide +kernel, by decide +kernel⟩
theorem tr__law_pool : trB nm__law_pool defNames 200 (defScope (top 9)) (defBody (top 9)) = some fn__law_pool.body := by kernel_rfl
theorem sc__law_pool : FnScope nm__law_pool (nm__law_pool.take fn__law_pool.ps) (defScope (top 9)) := ⟨rfl, rfl, rfl, by decide +kernel, rfl, by decide +kernel, by decide +kernel⟩
theorem tr__law_spread : trB nm__law_spread defNames 200 (defScope (top 10)) (defBody (top 10)) = some fn__law_spread.body := by kernel_rfl
theorem sc__law_spread : FnScope nm__law_spread (nm__law_spread.take fn__law_spread.ps) (defScope (top 10)) := ⟨rfl, rfl, rfl, by decide +kernel, rfl, by decide +kernel, by decide +kernel⟩
theorem tr__law_draw : trB nm__law_draw defNames 200 (defScope (top 11)) (defBody (top 11)) = some fn__law_draw.body := by kernel_rfl
theorem sc__law_draw : FnScope nm__law_draw (nm__law_draw.take fn__law_draw.ps) (defScope (top 11)) := ⟨rfl, rfl, rfl, by decide +kernel, rfl, by decide +kernel, by decide +kernel⟩
theorem tr__law_pick : trB nm__law_pick defNames 200 (defScope (top 12)) (defBody (top 12)) = some fn__law_pick.body := by kernel_rfl
theorem sc__law_pick : FnScope nm__law_pick (nm__law_pick.take fn__law_pick.ps) (defScope (top 12)) := ⟨rfl, rfl, rfl, by decide +kernel, rfl, by decide +kernel, by decide +kernel⟩
theorem tr__law_bent : trB nm__law_bent defNames 200 (defScope (top 13)) (defBody (top 13)) = some fn__law_bent.body := by kernel_rfl
theorem sc__law_bent : FnScope nm__law_bent (nm__law_bent.take fn__law_bent.ps) (defScope (top 13)) := ⟨rfl, rfl, rfl, by decide +kernel, rfl, by decide +kernel, by decide +kernel⟩
theorem tr__law_spelled : trB nm__law_spelled defNames 200 (defScope (top 14)) (defBody (top 14)) = some fn__law_spelled.body := by kernel_rfl
theorem sc__law_spelled : FnScope nm__law_spelled (nm__law_spelled.take fn__law_spelled.ps) (defScope (top 14)) := ⟨rfl, rfl, rfl, by decide +kernel, rfl, by decide +kernel, by decide +kernel⟩
theorem tr__law_words : trB nm__law_words defNames 200 (defScope (top 15)) (defBody (top 15)) = some fn__law_words.body := by kernel_rfl
theorem sc__law_words : FnScope nm__law_words (nm__law_words.take fn__law_words.ps) (defScope (top 15)) := ⟨rfl, rfl, rfl, by decide +kernel, rfl, by decide +kernel, by decide +kernel⟩
theorem tr__law_constructors : trB nm__law_constructors defNames 200 (defScope (top 16)) (defBody (top 16)) = some fn__law_constructors.body := by kernel_rfl
theorem sc__law_constructors : FnScope nm__law_constructors (nm__law_constructors.take fn__law_constructors.ps) (defScope (top 16)) := ⟨rfl, rfl, rfl, by decide +kernel, rfl, by decide +kernel, by decide +kernel⟩
theorem tr__law_term : trB nm__law_term defNames 200 (defScope (top 17)) (defBody (top 17)) = some fn__law_term.body := by kernel_rfl
theorem sc__law_term : FnScope nm__law_term (nm__law_term.take fn__law_term.ps) (defScope (top 17)) := ⟨rfl, rfl, rfl, by decide +kernel, rfl, by decide +kernel, by decide +kernel⟩
theorem tr__law_arity : trB nm__law_arity defNames 200 (defScope (top 18)) (defBody (top 18)) = some fn__law_arity.body := by kernel_rfl
theorem sc__law_arity : FnScope nm__law_arity (nm__law_arity.take fn__law_arity.ps) (defScope (top 18)) := ⟨rfl, rfl, rfl, by decide +kernel, rfl, by decide +kernel, by decide +kernel⟩
theorem tr__law_is_term : trB nm__law_is_term defNames 200 (defScope (top 19)) (defBody (top 19)) = some fn__law_is_term.body := by kernel_rfl
theorem sc__law_is_term : FnScope nm__law_is_term (nm__law_is_term.take fn__law_is_term.ps) (defScope (top 19)) := ⟨rfl, rfl, rfl, by decide +kernel, rfl, by decide +kernel, by decide +kernel⟩
theorem tr__law_occurrences : trB nm__law_occurrences defNames 200 (defScope (top 20)) (defBody (top 20)) = some fn__law_occurrences.body := by kernel_rfl
theorem sc__law_occurrences : FnScope nm__law_occurrences (nm__law_occurrences.take fn__law_occurrences.ps) (defScope (top 20)) := ⟨rfl, rfl, rfl, by decide +kernel, rfl, by decide +kernel, by decide +kernel⟩
theorem tr_law : trB nm_law defNames 200 (defScope (top 21)) (defBody (top 21)) = some fn_law.body := by kernel_rfl
theorem sc_law : FnScope nm_law (nm_law.take fn_law.ps) (defScope (top 21)) := ⟨rfl, rfl, rfl, by decide +kernel, rfl, by decide +kernel, by decide +kernel⟩
theorem all_mk {w : World} {K : PySem.W.Frag} {h : Heap} {mg : Str → Option Value} {fa f1 f2 f3 f4 f5 f7 f8 f9 f10 f11 f12 f13 f14 f15 f16 f17 f18 f19 f20 f21 : Addr} (X : K.In h) (G : h.Ns mainGlobals mg) (hfa : mg "law" = some (.ref fa))
    {od1 an1 od2 an2 od3 an3 od4 an4 od5 an5 od7 an7 od8 an8 od9 an9 od10 an10 od11 an11 od12 an12 od13 an13 od14 an14 od15 an15 od16 an16 od17 an17 od18 an18 od19 an19 od20 an20 od21 an21 : Option Addr} {sl1 sl2 sl3 sl4 sl5 sl7 sl8 sl9 sl10 sl11 sl12 sl13 sl14 sl15 sl16 sl17 sl18 sl19 sl20 sl21 : Array (Option Value)} {oc1 kV1 dc1 pm1 cd1 ct1 oc2 kV2 dc2 pm2 cd2 ct2 oc3 kV3 dc3 pm3 cd3 ct3 oc4 kV4 dc4 pm4 cd4 ct4 oc5 kV5 dc5 pm5 cd5 ct5 oc7 kV7 dc7 pm7 cd7 ct7 oc8 kV8 dc8 pm8 cd8 ct8 oc9 kV9 dc9 pm9 cd9 ct9 oc10 kV10 dc10 pm10 cd10 ct10 oc11 kV11 dc11 pm11 cd11 ct11 oc12 kV12 dc12 pm12 cd12 ct12 oc13 kV13 dc13 pm13 cd13 ct13 oc14 kV14 dc14 pm14 cd14 ct14 oc15 kV15 dc15 pm15 cd15 ct15 oc16 kV16 dc16 pm16 cd16 ct16 oc17 kV17 dc17 pm17 cd17 ct17 oc18 kV18 dc18 pm18 cd18 ct18 oc19 kV19 dc19 pm19 cd19 ct19 oc20 kV20 dc20 pm20 cd20 ct20 oc21 kV21 dc21 pm21 cd21 ct21 : Value}
    (a1 : PySem.W.nsIn K mainGlobals "is_variable" = some (some (.ref f1))) (l1 : K.lookup f1 = some ⟨oc1, od1, .func (PySem.W.fnOf "is_variable" "is_variable" (defArgs (top 1)) (defBody (top 1)) (defScope (top 1)) .none kV1 dc1 pm1 an1 cd1 ct1), sl1⟩) (c1 : PySem.W.codeIn K cd1 "is_variable" = true) (k1 : PySem.W.keepIn K (.ref f1) = true)
    (a2 : PySem.W.nsIn K mainGlobals "arity_of" = some (some (.ref f2))) (l2 : K.lookup f2 = some ⟨oc2, od2, .func (PySem.W.fnOf "arity_of" "arity_of" (defArgs (top 2)) (defBody (top 2)) (defScope (top 2)) .none kV2 dc2 pm2 an2 cd2 ct2), sl2⟩) (c2 : PySem.W.codeIn K cd2 "arity_of" = true) (k2 : PySem.W.keepIn K (.ref f2) = true)
    (a3 : PySem.W.nsIn K mainGlobals "is_term" = some (some (.ref f3))) (l3 : K.lookup f3 = some ⟨oc3, od3, .func (PySem.W.fnOf "is_term" "is_term" (defArgs (top 3)) (defBody (top 3)) (defScope (top 3)) .none kV3 dc3 pm3 an3 cd3 ct3), sl3⟩) (c3 : PySem.W.codeIn K cd3 "is_term" = true) (k3 : PySem.W.keepIn K (.ref f3) = true)
    (a4 : PySem.W.nsIn K mainGlobals "is_closed_term" = some (some (.ref f4))) (l4 : K.lookup f4 = some ⟨oc4, od4, .func (PySem.W.fnOf "is_closed_term" "is_closed_term" (defArgs (top 4)) (defBody (top 4)) (defScope (top 4)) .none kV4 dc4 pm4 an4 cd4 ct4), sl4⟩) (c4 : PySem.W.codeIn K cd4 "is_closed_term" = true) (k4 : PySem.W.keepIn K (.ref f4) = true)
    (a5 : PySem.W.nsIn K mainGlobals "occurrences" = some (some (.ref f5))) (l5 : K.lookup f5 = some ⟨oc5, od5, .func (PySem.W.fnOf "occurrences" "occurrences" (defArgs (top 5)) (defBody (top 5)) (defScope (top 5)) .none kV5 dc5 pm5 an5 cd5 ct5), sl5⟩) (c5 : PySem.W.codeIn K cd5 "occurrences" = true) (k5 : PySem.W.keepIn K (.ref f5) = true)
    (a7 : PySem.W.nsIn K mainGlobals "_law_same" = some (some (.ref f7))) (l7 : K.lookup f7 = some ⟨oc7, od7, .func (PySem.W.fnOf "_law_same" "_law_same" (defArgs (top 7)) (defBody (top 7)) (defScope (top 7)) .none kV7 dc7 pm7 an7 cd7 ct7), sl7⟩) (c7 : PySem.W.codeIn K cd7 "_law_same" = true) (k7 : PySem.W.keepIn K (.ref f7) = true)
    (a8 : PySem.W.nsIn K mainGlobals "_law_is_integer" = some (some (.ref f8))) (l8 : K.lookup f8 = some ⟨oc8, od8, .func (PySem.W.fnOf "_law_is_integer" "_law_is_integer" (defArgs (top 8)) (defBody (top 8)) (defScope (top 8)) .none kV8 dc8 pm8 an8 cd8 ct8), sl8⟩) (c8 : PySem.W.codeIn K cd8 "_law_is_integer" = true) (k8 : PySem.W.keepIn K (.ref f8) = true)
    (a9 : PySem.W.nsIn K mainGlobals "_law_pool" = some (some (.ref f9))) (l9 : K.lookup f9 = some ⟨oc9, od9, .func (PySem.W.fnOf "_law_pool" "_law_pool" (defArgs (top 9)) (defBody (top 9)) (defScope (top 9)) .none kV9 dc9 pm9 an9 cd9 ct9), sl9⟩) (c9 : PySem.W.codeIn K cd9 "_law_pool" = true) (k9 : PySem.W.keepIn K (.ref f9) = true)
    (a10 : PySem.W.nsIn K mainGlobals "_law_spread" = some (some (.ref f10))) (l10 : K.lookup f10 = some ⟨oc10, od10, .func (PySem.W.fnOf "_law_spread" "_law_spread" (defArgs (top 10)) (defBody (top 10)) (defScope (top 10)) .none kV10 dc10 pm10 an10 cd10 ct10), sl10⟩) (c10 : PySem.W.codeIn K cd10 "_law_spread" = true) (k10 : PySem.W.keepIn K (.ref f10) = true)
    (a11 : PySem.W.nsIn K mainGlobals "_law_draw" = some (some (.ref f11))) (l11 : K.lookup f11 = some ⟨oc11, od11, .func (PySem.W.fnOf "_law_draw" "_law_draw" (defArgs (top 11)) (defBody (top 11)) (defScope (top 11)) .none kV11 dc11 pm11 an11 cd11 ct11), sl11⟩) (c11 : PySem.W.codeIn K cd11 "_law_draw" = true) (k11 : PySem.W.keepIn K (.ref f11) = true)
    (a12 : PySem.W.nsIn K mainGlobals "_law_pick" = some (some (.ref f12))) (l12 : K.lookup f12 = some ⟨oc12, od12, .func (PySem.W.fnOf "_law_pick" "_law_pick" (defArgs (top 12)) (defBody (top 12)) (defScope (top 12)) .none kV12 dc12 pm12 an12 cd12 ct12), sl12⟩) (c12 : PySem.W.codeIn K cd12 "_law_pick" = true) (k12 : PySem.W.keepIn K (.ref f12) = true)
    (a13 : PySem.W.nsIn K mainGlobals "_law_bent" = some (some (.ref f13))) (l13 : K.lookup f13 = some ⟨oc13, od13, .func (PySem.W.fnOf "_law_bent" "_law_bent" (defArgs (top 13)) (defBody (top 13)) (defScope (top 13)) .none kV13 dc13 pm13 an13 cd13 ct13), sl13⟩) (c13 : PySem.W.codeIn K cd13 "_law_bent" = true) (k13 : PySem.W.keepIn K (.ref f13) = true)
    (a14 : PySem.W.nsIn K mainGlobals "_law_spelled" = some (some (.ref f14))) (l14 : K.lookup f14 = some ⟨oc14, od14, .func (PySem.W.fnOf "_law_spelled" "_law_spelled" (defArgs (top 14)) (defBody (top 14)) (defScope (top 14)) .none kV14 dc14 pm14 an14 cd14 ct14), sl14⟩) (c14 : PySem.W.codeIn K cd14 "_law_spelled" = true) (k14 : PySem.W.keepIn K (.ref f14) = true)
    (a15 : PySem.W.nsIn K mainGlobals "_law_words" = some (some (.ref f15))) (l15 : K.lookup f15 = some ⟨oc15, od15, .func (PySem.W.fnOf "_law_words" "_law_words" (defArgs (top 15)) (defBody (top 15)) (defScope (top 15)) .none kV15 dc15 pm15 an15 cd15 ct15), sl15⟩) (c15 : PySem.W.codeIn K cd15 "_law_words" = true) (k15 : PySem.W.keepIn K (.ref f15) = true)
    (a16 : PySem.W.nsIn K mainGlobals "_law_constructors" = some (some (.ref f16))) (l16 : K.lookup f16 = some ⟨oc16, od16, .func (PySem.W.fnOf "_law_constructors" "_law_constructors" (defArgs (top 16)) (defBody (top 16)) (defScope (top 16)) .none kV16 dc16 pm16 an16 cd16 ct16), sl16⟩) (c16 : PySem.W.codeIn K cd16 "_law_constructors" = true) (k16 : PySem.W.keepIn K (.ref f16) = true)
    (a17 : PySem.W.nsIn K mainGlobals "_law_term" = some (some (.ref f17))) (l17 : K.lookup f17 = some ⟨oc17, od17, .func (PySem.W.fnOf "_law_term" "_law_term" (defArgs (top 17)) (defBody (top 17)) (defScope (top 17)) .none kV17 dc17 pm17 an17 cd17 ct17), sl17⟩) (c17 : PySem.W.codeIn K cd17 "_law_term" = true) (k17 : PySem.W.keepIn K (.ref f17) = true)
    (a18 : PySem.W.nsIn K mainGlobals "_law_arity" = some (some (.ref f18))) (l18 : K.lookup f18 = some ⟨oc18, od18, .func (PySem.W.fnOf "_law_arity" "_law_arity" (defArgs (top 18)) (defBody (top 18)) (defScope (top 18)) .none kV18 dc18 pm18 an18 cd18 ct18), sl18⟩) (c18 : PySem.W.codeIn K cd18 "_law_arity" = true) (k18 : PySem.W.keepIn K (.ref f18) = true)
    (a19 : PySem.W.nsIn K mainGlobals "_law_is_term" = some (some (.ref f19))) (l19 : K.lookup f19 = some ⟨oc19, od19, .func (PySem.W.fnOf "_law_is_term" "_law_is_term" (defArgs (top 19)) (defBody (top 19)) (defScope (top 19)) .none kV19 dc19 pm19 an19 cd19 ct19), sl19⟩) (c19 : PySem.W.codeIn K cd19 "_law_is_term" = true) (k19 : PySem.W.keepIn K (.ref f19) = true)
    (a20 : PySem.W.nsIn K mainGlobals "_law_occurrences" = some (some (.ref f20))) (l20 : K.lookup f20 = some ⟨oc20, od20, .func (PySem.W.fnOf "_law_occurrences" "_law_occurrences" (defArgs (top 20)) (defBody (top 20)) (defScope (top 20)) .none kV20 dc20 pm20 an20 cd20 ct20), sl20⟩) (c20 : PySem.W.codeIn K cd20 "_law_occurrences" = true) (k20 : PySem.W.keepIn K (.ref f20) = true)
    (a21 : PySem.W.nsIn K mainGlobals "law" = some (some (.ref f21))) (l21 : K.lookup f21 = some ⟨oc21, od21, .func (PySem.W.fnOf "law" "law" (defArgs (top 21)) (defBody (top 21)) (defScope (top 21)) .none kV21 dc21 pm21 an21 cd21 ct21), sl21⟩) (c21 : PySem.W.codeIn K cd21 "law" = true) (k21 : PySem.W.keepIn K (.ref f21) = true)
    (z0 : PySem.W.nsIn K mainGlobals "len" = some none)
    (z1 : PySem.W.nsIn K mainGlobals "int" = some none)
    (z2 : PySem.W.nsIn K mainGlobals "tuple" = some none)
    (z3 : PySem.W.nsIn K mainGlobals "list" = some none)
    (z4 : PySem.W.nsIn K mainGlobals "sum" = some none)
    (z5 : PySem.W.nsIn K mainGlobals "max" = some none)
    (z6 : PySem.W.nsIn K mainGlobals "min" = some none)
    (z7 : PySem.W.nsIn K mainGlobals "any" = some none)
    (z8 : PySem.W.nsIn K mainGlobals "all" = some none)
    (z9 : PySem.W.nsIn K mainGlobals "repr" = some none)
    (z10 : PySem.W.nsIn K mainGlobals "abs" = some none)
    (z11 : PySem.W.nsIn K mainGlobals "str" = some none)
    (z12 : PySem.W.nsIn K mainGlobals "isinstance" = some none)
    (z13 : PySem.W.nsIn K mainGlobals "bool" = some none)
    (z14 : PySem.W.nsIn K mainGlobals "dict" = some none)
    (z15 : PySem.W.nsIn K mainGlobals "range" = some none)
    (z16 : PySem.W.nsIn K mainGlobals "zip" = some none) :
    (∀ f ∈ defNames, ∃ st fn N n a fd, DefOk K mg F0 defNames f st fn N n a fd) ∧ (∀ x ∈ bltNames, mg x = none) ∧ (∀ x z, G0 x = some z → ∃ u, mg x = some u ∧ RelV (.str z) u) ∧
      ∃ st fn N n fd, DefOk K mg F0 defNames "law" st fn N n fa fd ∧ N.take fn.ps = ([("script" : Str)] : List Str) ∧ ∀ (s : Shared) (u : Value), BindsTo s fd ⟨[u], []⟩ [(("script" : Str), u)] := by
  have e : f21 = fa := by have e := hfa.symm.trans (PySem.W.mg_of X G a21); cases e; rfl
  subst e
  have F1 := fun_mk (st := top 1) l1 c1 k1
  have d1 : DefOk K mg F0 defNames (PySem.Str.ofString "is_variable") (top 1) fn_is_variable nm_is_variable 200 f1 _ := ⟨F0_is_variable, F1, PySem.W.mg_of X G a1, sc_is_variable, rfl, rfl, tr_is_variable, F1.binds (ps := nm_is_variable.take fn_is_variable.ps) fun _ _ _ _ _ _ us hl => match us, hl with | [_], _ => rfl⟩
  have F2 := fun_mk (st := top 2) l2 c2 k2
  have d2 : DefOk K mg F0 defNames (PySem.Str.ofString "arity_of") (top 2) fn_arity_of nm_arity_of 200 f2 _ := ⟨F0_arity_of, F2, PySem.W.mg_of X G a2, sc_arity_of, rfl, rfl, tr_arity_of, F2.binds (ps := nm_arity_of.take fn_arity_of.ps) fun _ _ _ _ _ _ us hl => match us, hl with | [_, _], _ => rfl⟩
  have F3 := fun_mk (st := top 3) l3 c3 k3
  have d3 : DefOk K mg F0 defNames (PySem.Str.ofString "is_term") (top 3) fn_is_term nm_is_term 200 f3 _ := ⟨F0_is_term, F3, PySem.W.mg_of X G a3, sc_is_term, rfl, rfl, tr_is_term, F3.binds (ps := nm_is_term.take fn_is_term.ps) fun _ _ _ _ _ _ us hl => match us, hl with | [_, _], _ => rfl⟩
  have F4 := fun_mk (st := top 4) l4 c4 k4
  have d4 : DefOk K mg F0 defNames (PySem.Str.ofString "is_closed_term") (top 4) fn_is_closed_term nm_is_closed_term 200 f4 _ := ⟨F0_is_closed_term, F4, PySem.W.mg_of X G a4, sc_is_closed_term, rfl, rfl, tr_is_closed_term, F4.binds (ps := nm_is_closed_term.take fn_is_closed_term.ps) fun _ _ _ _ _ _ us hl => match us, hl with | [_, _], _ => rfl⟩
  have F5 := fun_mk (st := top 5) l5 c5 k5
  have d5 : DefOk K mg F0 defNames (PySem.Str.ofString "occurrences") (top 5) fn_occurrences nm_occurrences 200 f5 _ := ⟨F0_occurrences, F5, PySem.W.mg_of X G a5, sc_occurrences, rfl, rfl, tr_occurrences, F5.binds (ps := nm_occurrences.take fn_occurrences.ps) fun _ _ _ _ _ _ us hl => match us, hl with | [_], _ => rfl⟩
  have F7 := fun_mk (st := top 7) l7 c7 k7
  have d7 : DefOk K mg F0 defNames (PySem.Str.ofString "_law_same") (top 7) fn__law_same nm__law_same 200 f7 _ := ⟨F0__law_same, F7, PySem.W.mg_of X G a7, sc__law_same, rfl, rfl, tr__law_same, F7.binds (ps := nm__law_same.take fn__law_same.ps) fun _ _ _ _ _ _ us hl => match us, hl with | [_, _], _ => rfl⟩
  have F8 := fun_mk (st := top 8) l8 c8 k8
  have d8 : DefOk K mg F0 defNames (PySem.Str.ofString "_law_is_integer") (top 8) fn__law_is_integer nm__law_is_integer 200 f8 _ := ⟨F0__law_is_integer, F8, PySem.W.mg_of X G a8, sc__law_is_integer, rfl, rfl, tr__law_is_integer, F8.binds (ps := nm__law_is_integer.take fn__law_is_integer.ps) fun _ _ _ _ _ _ us hl => match us, hl with | [_], _ => rfl⟩
  have F9 := fun_mk (st := top 9) l9 c9 k9
  have d9 : DefOk K mg F0 defNames (PySem.Str.ofString "_law_pool") (top 9) fn__law_pool nm__law_pool 200 f9 _ := ⟨F0__law_pool, F9, PySem.W.mg_of X G a9, sc__law_pool, rfl, rfl, tr__law_pool, F9.binds (ps := nm__law_pool.take fn__law_pool.ps) fun _ _ _ _ _ _ us hl => match us, hl with | [_], _ => rfl⟩
  have F10 := fun_mk (st := top 10) l10 c10 k10
  have d10 : DefOk K mg F0 defNames (PySem.Str.ofString "_law_spread") (top 10) fn__law_spread nm__law_spread 200 f10 _ := ⟨F0__law_spread, F10, PySem.W.mg_of X G a10, sc__law_spread, rfl, rfl, tr__law_spread, F10.binds (ps := nm__law_spread.take fn__law_spread.ps) fun _ _ _ _ _ _ us hl => match us, hl with | [_], _ => rfl⟩
  have F11 := fun_mk (st := top 11) l11 c11 k11
  have d11 : DefOk K mg F0 defNames (PySem.Str.ofString "_law_draw") (top 11) fn__law_draw nm__law_draw 200 f11 _ := ⟨F0__law_draw, F11, PySem.W.mg_of X G a11, sc__law_draw, rfl, rfl, tr__law_draw, F11.binds (ps := nm__law_draw.take fn__law_draw.ps) fun _ _ _ _ _ _ us hl => match us, hl with | [_, _], _ => rfl⟩
  have F12 := fun_mk (st := top 12) l12 c12 k12
  have d12 : DefOk K mg F0 defNames (PySem.Str.ofString "_law_pick") (top 12) fn__law_pick nm__law_pick 200 f12 _ := ⟨F0__law_pick, F12, PySem.W.mg_of X G a12, sc__law_pick, rfl, rfl, tr__law_pick, F12.binds (ps := nm__law_pick.take fn__law_pick.ps) fun _ _ _ _ _ _ us hl => match us, hl with | [_, _], _ => rfl⟩
  have F13 := fun_mk (st := top 13) l13 c13 k13
  have d13 : DefOk K mg F0 defNames (PySem.Str.ofString "_law_bent") (top 13) fn__law_bent nm__law_bent 200 f13 _ := ⟨F0__law_bent, F13, PySem.W.mg_of X G a13, sc__law_bent, rfl, rfl, tr__law_bent, F13.binds (ps := nm__law_bent.take fn__law_bent.ps) fun _ _ _ _ _ _ us hl => match us, hl with | [_, _], _ => rfl⟩
  have F14 := fun_mk (st := top 14) l14 c14 k14
  have d14 : DefOk K mg F0 defNames (PySem.Str.ofString "_law_spelled") (top 14) fn__law_spelled nm__law_spelled 200 f14 _ := ⟨F0__law_spelled, F14, PySem.W.mg_of X G a14, sc__law_spelled, rfl, rfl, tr__law_spelled, F14.binds (ps := nm__law_spelled.take fn__law_spelled.ps) fun _ _ _ _ _ _ us hl => match us, hl with | [_], _ => rfl⟩
  have F15 := fun_mk (st := top 15) l15 c15 k15
  have d15 : DefOk K mg F0 defNames (PySem.Str.ofString "_law_words") (top 15) fn__law_words nm__law_words 200 f15 _ := ⟨F0__law_words, F15, PySem.W.mg_of X G a15, sc__law_words, rfl, rfl, tr__law_words, F15.binds (ps := nm__law_words.take fn__law_words.ps) fun _ _ _ _ _ _ us hl => match us, hl with | [_, _], _ => rfl⟩
  have F16 := fun_mk (st := top 16) l16 c16 k16
  have d16 : DefOk K mg F0 defNames (PySem.Str.ofString "_law_constructors") (top 16) fn__law_constructors nm__law_constructors 200 f16 _ := ⟨F0__law_constructors, F16, PySem.W.mg_of X G a16, sc__law_constructors, rfl, rfl, tr__law_constructors, F16.binds (ps := nm__law_constructors.take fn__law_constructors.ps) fun _ _ _ _ _ _ us hl => match us, hl with | [_], _ => rfl⟩
  have F17 := fun_mk (st := top 17) l17 c17 k17
  have d17 : DefOk K mg F0 defNames (PySem.Str.ofString "_law_term") (top 17) fn__law_term nm__law_term 200 f17 _ := ⟨F0__law_term, F17, PySem.W.mg_of X G a17, sc__law_term, rfl, rfl, tr__law_term, F17.binds (ps := nm__law_term.take fn__law_term.ps) fun _ _ _ _ _ _ us hl => match us, hl with | [_, _, _, _], _ => rfl⟩
  have F18 := fun_mk (st := top 18) l18 c18 k18
  have d18 : DefOk K mg F0 defNames (PySem.Str.ofString "_law_arity") (top 18) fn__law_arity nm__law_arity 200 f18 _ := ⟨F0__law_arity, F18, PySem.W.mg_of X G a18, sc__law_arity, rfl, rfl, tr__law_arity, F18.binds (ps := nm__law_arity.take fn__law_arity.ps) fun _ _ _ _ _ _ us hl => match us, hl with | [_, _], _ => rfl⟩
  have F19 := fun_mk (st := top 19) l19 c19 k19
  have d19 : DefOk K mg F0 defNames (PySem.Str.ofString "_law_is_term") (top 19) fn__law_is_term nm__law_is_term 200 f19 _ := ⟨F0__law_is_term, F19, PySem.W.mg_of X G a19, sc__law_is_term, rfl, rfl, tr__law_is_term, F19.binds (ps := nm__law_is_term.take fn__law_is_term.ps) fun _ _ _ _ _ _ us hl => match us, hl with | [_, _], _ => rfl⟩
  have F20 := fun_mk (st := top 20) l20 c20 k20
  have d20 : DefOk K mg F0 defNames (PySem.Str.ofString "_law_occurrences") (top 20) fn__law_occurrences nm__law_occurrences 200 f20 _ := ⟨F0__law_occurrences, F20, PySem.W.mg_of X G a20, sc__law_occurrences, rfl, rfl, tr__law_occurrences, F20.binds (ps := nm__law_occurrences.take fn__law_occurrences.ps) fun _ _ _ _ _ _ us hl => match us, hl with | [_], _ => rfl⟩
  have F21 := fun_mk (st := top 21) l21 c21 k21
  have d21 : DefOk K mg F0 defNames (PySem.Str.ofString "law") (top 21) fn_law nm_law 200 f21 _ := ⟨F0_law, F21, PySem.W.mg_of X G a21, sc_law, rfl, rfl, tr_law, F21.binds (ps := nm_law.take fn_law.ps) fun _ _ _ _ _ _ us hl => match us, hl with | [_], _ => rfl⟩
  refine ⟨?_, ?_, ?_, _, _, _, _, _, d21, rfl, fun s u => .of_eq rfl⟩
  · exact lm ⟨_, _, _, _, _, _, d1⟩ (lm ⟨_, _, _, _, _, _, d2⟩ (lm ⟨_, _, _, _, _, _, d3⟩ (lm ⟨_, _, _, _, _, _, d4⟩ (lm ⟨_, _, _, _, _, _, d5⟩ (lm ⟨_, _, _, _, _, _, d7⟩ (lm ⟨_, _, _, _, _, _, d8⟩ (lm ⟨_, _, _, _, _, _, d9⟩ (lm ⟨_, _, _, _, _, _, d10⟩ (lm ⟨_, _, _, _, _, _, d11⟩ (lm ⟨_, _, _, _, _, _, d12⟩ (lm ⟨_, _, _, _, _, _, d13⟩ (lm ⟨_, _, _, _, _, _, d14⟩ (lm ⟨_, _, _, _, _, _, d15⟩ (lm ⟨_, _, _, _, _, _, d16⟩ (lm ⟨_, _, _, _, _, _, d17⟩ (lm ⟨_, _, _, _, _, _, d18⟩ (lm ⟨_, _, _, _, _, _, d19⟩ (lm ⟨_, _, _, _, _, _, d20⟩ (lm ⟨_, _, _, _, _, _, d21⟩ (ln))))))))))))))))))))
  · exact lm (PySem.W.mg_none_of X G z0) (lm (PySem.W.mg_none_of X G z1) (lm (PySem.W.mg_none_of X G z2) (lm (PySem.W.mg_none_of X G z3) (lm (PySem.W.mg_none_of X G z4) (lm (PySem.W.mg_none_of X G z5) (lm (PySem.W.mg_none_of X G z6) (lm (PySem.W.mg_none_of X G z7) (lm (PySem.W.mg_none_of X G z8) (lm (PySem.W.mg_none_of X G z9) (lm (PySem.W.mg_none_of X G z10) (lm (PySem.W.mg_none_of X G z11) (lm (PySem.W.mg_none_of X G z12) (lm (PySem.W.mg_none_of X G z13) (lm (PySem.W.mg_none_of X G z14) (lm (PySem.W.mg_none_of X G z15) (lm (PySem.W.mg_none_of X G z16) (ln)))))))))))))))))
  · intro x z hx
    cases hx
end
end Mp
open PySem PySem.W PyProof.Rows
set_option maxRecDepth 100000 in
set_option maxHeartbeats 0 in
theorem PySem.Challenge.cw_casefamilies_k02_terms_told_holds : PySem.Challenge.rw_casefamilies_k02_terms_told.Holds := by
  w_on; o_law; k_head; (case hw => w_witness2)
  k_fill
  refine Mp.walkG (l := PySem.Challenge.rw_casefamilies_k02_terms_told) (n := 63) (k := 200) (F := Mp.F0) (G := Mp.G0) (L := Mp.defNames) rfl (by decide) rfl ⟨rfl, by decide, by decide⟩ (fun w h Y => PySem.W.kIn_of Y) ?F Mp.law_true
  case F =>
    intro w mg fa h KX G hmg
    refine' Mp.all_mk (w := w) KX G hmg ?a1 ?l1 ?c1 ?k1 ?a2 ?l2 ?c2 ?k2 ?a3 ?l3 ?c3 ?k3 ?a4 ?l4 ?c4 ?k4 ?a5 ?l5 ?c5 ?k5 ?a7 ?l7 ?c7 ?k7 ?a8 ?l8 ?c8 ?k8 ?a9 ?l9 ?c9 ?k9 ?a10 ?l10 ?c10 ?k10 ?a11 ?l11 ?c11 ?k11 ?a12 ?l12 ?c12 ?k12 ?a13 ?l13 ?c13 ?k13 ?a14 ?l14 ?c14 ?k14 ?a15 ?l15 ?c15 ?k15 ?a16 ?l16 ?c16 ?k16 ?a17 ?l17 ?c17 ?k17 ?a18 ?l18 ?c18 ?k18 ?a19 ?l19 ?c19 ?k19 ?a20 ?l20 ?c20 ?k20 ?a21 ?l21 ?c21 ?k21 ?z0 ?z1 ?z2 ?z3 ?z4 ?z5 ?z6 ?z7 ?z8 ?z9 ?z10 ?z11 ?z12 ?z13 ?z14 ?z15 ?z16
    (case a1 => k_is); (case l1 => k_is); (case c1 => k_is); (case k1 => k_is)
    (case a2 => k_is); (case l2 => k_is); (case c2 => k_is); (case k2 => k_is)
    (case a3 => k_is); (case l3 => k_is); (case c3 => k_is); (case k3 => k_is)
    (case a4 => k_is); (case l4 => k_is); (case c4 => k_is); (case k4 => k_is)
    (case a5 => k_is); (case l5 => k_is); (case c5 => k_is); (case k5 => k_is)
    (case a7 => k_is); (case l7 => k_is); (case c7 => k_is); (case k7 => k_is)
    (case a8 => k_is); (case l8 => k_is); (case c8 => k_is); (case k8 => k_is)
    (case a9 => k_is); (case l9 => k_is); (case c9 => k_is); (case k9 => k_is)
    (case a10 => k_is); (case l10 => k_is); (case c10 => k_is); (case k10 => k_is)
    (case a11 => k_is); (case l11 => k_is); (case c11 => k_is); (case k11 => k_is)
    (case a12 => k_is); (case l12 => k_is); (case c12 => k_is); (case k12 => k_is)
    (case a13 => k_is); (case l13 => k_is); (case c13 => k_is); (case k13 => k_is)
    (case a14 => k_is); (case l14 => k_is); (case c14 => k_is); (case k14 => k_is)
    (case a15 => k_is); (case l15 => k_is); (case c15 => k_is); (case k15 => k_is)
    (case a16 => k_is); (case l16 => k_is); (case c16 => k_is); (case k16 => k_is)
    (case a17 => k_is); (case l17 => k_is); (case c17 => k_is); (case k17 => k_is)
    (case a18 => k_is); (case l18 => k_is); (case c18 => k_is); (case k18 => k_is)
    (case a19 => k_is); (case l19 => k_is); (case c19 => k_is); (case k19 => k_is)
    (case a20 => k_is); (case l20 => k_is); (case c20 => k_is); (case k20 => k_is)
    (case a21 => k_is); (case l21 => k_is); (case c21 => k_is); (case k21 => k_is)
    (case z0 => k_is); (case z1 => k_is); (case z2 => k_is); (case z3 => k_is); (case z4 => k_is); (case z5 => k_is); (case z6 => k_is); (case z7 => k_is); (case z8 => k_is); (case z9 => k_is); (case z10 => k_is); (case z11 => k_is); (case z12 => k_is); (case z13 => k_is); (case z14 => k_is); (case z15 => k_is); (case z16 => k_is)
