import PyProof.Rows.All
import PyProof.P3Statements
import KE.KDictSum
import KE.KSortTup
import PyProof.LongRange
import KE.KItem
import Wide.All
import OpenK.AllK
import Wide.FinOn
import PySem.Challenge.RW_uf050032_03
set_option autoImplicit false
set_option Elab.async false

set_option genSizeOf false
namespace RS
open PySem (PyData)

/-! ## values, heaps -/
inductive V where
  | none
  | bool (b : Bool)
  | int (i : Int)
  | str (s : String)
  | tup (vs : List V)
  | ref (a : Nat)
  | script
  | typ (n : String)
  | cls (n : String)
  | exc (c : String)

noncomputable def V.ints : List V → Option (List Int)
  | [] => some []
  | .int i :: r => (V.ints r).map (i :: ·)
  | _ :: _ => Option.none

/-- the key of a dict by tuples of ints -/
noncomputable def V.key : V → Option (List Int)
  | .tup vs => V.ints vs
  | _ => Option.none
noncomputable def kv (l : List Int) : V := .tup (l.map .int)

inductive Cell where
  | lst (vs : List V)
  | dct (es : List (List Int × V)) (ep : Nat)
  | dci (es : List (Int × V)) (ep : Nat)
  | inst (c : String) (d : Nat)
  | attrs (m : String → Option V)

abbrev Hp := Nat → Option Cell
noncomputable def Hp.set (σ : Hp) (a : Nat) (c : Cell) : Hp := fun b => if b = a then some c else σ b
abbrev Env := String → Option V
noncomputable def Env.set (ρ : Env) (x : String) (v : V) : Env := fun y => if y = x then some v else ρ y

/-! ## data -/
noncomputable def optAll {α β : Type} (f : α → Option β) : List α → Option (List β)
  | [] => some []
  | a :: r => match f a, optAll f r with
    | some b, some s => some (b :: s)
    | _, _ => Option.none

noncomputable def snap (σ : Hp) : Nat → V → Option PyData
  | _, .none => some .none
  | _, .bool b => some (.bool b)
  | _, .int i => some (.int i)
  | _, .str s => some (.str (PySem.Str.ofString s))
  | n + 1, .tup vs => (optAll (snap σ n) vs).map .tuple
  | n + 1, .ref a => match σ a with
    | some (.lst vs) => (optAll (snap σ n) vs).map .list
    | _ => Option.none
  | _, _ => Option.none

/-! ## the small language -/
inductive Bop where
  | add | sub | mul | fdiv | mod | pow
inductive Cop where
  | eq | ne | lt | le | gt | ge | is | isNot | isIn | notIn

inductive Bi where
  | len | min | max | sum | int | isinstance | list | tuple | dict | all | sorted
inductive Me where
  | append | pop | popk | clear | index | get | update
  | own (m : String)

mutual
inductive X where
  | none
  | bool (b : Bool)
  | num (i : Int)
  | str (s : String)
  | var (x : String)
  | glob (x : String)
  | bin (op : Bop) (a b : X)
  | neg (a : X)
  | not (a : X)
  | bop (isAnd : Bool) (l : List X)
  | cmp (a : X) (op : Cop) (b : X)
  | cmp2 (a : X) (op : Cop) (b : X) (op2 : Cop) (c : X)
  | call (f : String) (args : List X)
  | bi (f : Bi) (args : List X)
  | meth (o : X) (m : Me) (args : List X)
  | idx (o i : X)
  | slice (o : X) (l u : Option X)
  | rev (o : X)
  | attr (o : X) (n : String)
  | tup (l : List X)
  | lst (l : List X)
  | emptyDict
  | dict1 (k v : X)
  | comp (elt : X) (x : String) (src : Src) (ifs : List X)
inductive Src where
  | range1 (hi : X)
  | range2 (lo hi : X)
  | of (e : X)
end

inductive T where
  | var (x : String)
  | idx (o i : X)
  | attr (o : X) (n : String)
  | tup (xs : List String)

inductive S where
  | ret (e : X)
  | expr (e : X)
  | assign (t : T) (e : X)
  | ite (c : X) (a b : List S)
  | for_ (x : String) (src : Src) (body : List S)
  | while_ (c : X) (body : List S)
  | raise (c : String)
  | try_ (body : List S) (hs : List (String × Option String × List S))
  | pass

/-! ## what the operations give -/
noncomputable def truth : V → Option Bool
  | .bool b => some b
  | .none => some false
  | .int i => some (i != 0)
  | _ => Option.none

/-- a place of a sequence, from behind where below nought -/
noncomputable def pyGet {α : Type} (vs : List α) (k : Int) : Option α :=
  if 0 ≤ k then vs[k.toNat]? else if 0 ≤ k + vs.length then vs[(k + vs.length).toNat]? else Option.none

/-- a slice's end, brought into the sequence -/
noncomputable def clip (n : Nat) (k : Int) : Nat := if 0 ≤ k then min k.toNat n else (k + n).toNat

noncomputable def clipLo (n : Nat) : Option Int → Nat
  | Option.none => 0
  | some k => clip n k
noncomputable def clipHi (n : Nat) : Option Int → Nat
  | Option.none => n
  | some k => clip n k
noncomputable def pySlice {α : Type} (vs : List α) (l u : Option Int) : List α := (vs.take (clipHi vs.length u)).drop (clipLo vs.length l)

section
variable {K : Type} [DecidableEq K]
noncomputable def dget (es : List (K × V)) (k : K) : Option V := (es.find? fun e => decide (e.1 = k)).map (·.2)
noncomputable def dput (es : List (K × V)) (k : K) (v : V) : List (K × V) :=
  if (dget es k).isSome then es.map fun e => if e.1 = k then (e.1, v) else e else es ++ [(k, v)]
noncomputable def ddel (es : List (K × V)) (k : K) : List (K × V) := es.filter fun e => decide (e.1 ≠ k)
end

noncomputable def small (i : Int) : Prop := -9223372036854775808 ≤ i ∧ i < 9223372036854775808
noncomputable def lenOk (n : Nat) : Prop := n ≤ 1000000

abbrev VP := V → Hp → Prop
abbrev XP := String → Hp → Prop
abbrev CallT := String → List V → Hp → VP → XP → Prop

structure Glb where
  ns : List Int
  glob : String → Option V
  has : String → Bool
  call : CallT

noncomputable def newP (σ : Hp) (c : Cell) (Q : VP) : Prop := ∀ a, σ a = Option.none → Q (.ref a) (σ.set a c)

noncomputable def binP : Bop → V → V → Hp → VP → Prop
  | .add, .int a, .int b, σ, Q => Q (.int (a + b)) σ
  | .sub, .int a, .int b, σ, Q => Q (.int (a - b)) σ
  | .mul, .int a, .int b, σ, Q => (small a ∨ small b) ∧ Q (.int (a * b)) σ
  | .fdiv, .int a, .int b, σ, Q => (0 < b ∧ small b) ∧ Q (.int (a / b)) σ
  | .mod, .int a, .int b, σ, Q => 0 < b ∧ Q (.int (a % b)) σ
  | .pow, .int a, .int b, σ, Q => (small a ∧ 0 ≤ b ∧ b ≤ 1000) ∧ Q (.int (a ^ b.toNat)) σ
  | .add, .tup xs, .tup ys, σ, Q => (xs ≠ [] ∧ ys ≠ [] ∧ lenOk (xs.length + ys.length)) ∧ Q (.tup (xs ++ ys)) σ
  | .add, .ref a, .ref b, σ, Q => ∃ xs ys, (σ a = some (.lst xs) ∧ σ b = some (.lst ys) ∧ lenOk (xs.length + ys.length)) ∧ newP σ (.lst (xs ++ ys)) Q
  | _, _, _, _, _ => False

noncomputable def eqP (v w : V) (σ : Hp) (Q : Bool → Prop) : Prop :=
  match v, w with
  | .int a, .int b => Q (decide (a = b))
  | .str a, .str b => Q (decide (a = b))
  | v, w => ∃ d e, (snap σ 50 v = some d ∧ snap σ 50 w = some e) ∧ Q (PyData.eqv d e)

/-- is x among these -/
noncomputable def anyEq (σ : Hp) (x : V) (vs : List V) (Q : Bool → Prop) : Prop :=
  ∃ d ds, (snap σ 40 x = some d ∧ optAll (snap σ 40) vs = some ds) ∧ Q (ds.any fun e => PyData.eqv e d)

noncomputable def inP (v w : V) (σ : Hp) (Q : Bool → Prop) : Prop :=
  match w with
  | .ref a => match σ a with
    | some (.lst vs) => anyEq σ v vs Q
    | some (.dct es _) => ∃ k, v.key = some k ∧ Q (dget es k).isSome
    | some (.dci es _) => False ∧ ∃ k, v = .int k ∧ Q (dget es k).isSome
    | _ => False
  | _ => False

noncomputable def V.isNone : V → Bool
  | .none => true
  | _ => false

noncomputable def cmpP : Cop → V → V → Hp → (Bool → Prop) → Prop
  | .eq, v, w, σ, Q => eqP v w σ Q
  | .ne, v, w, σ, Q => eqP v w σ fun b => Q (!b)
  | .lt, .int a, .int b, _, Q => Q (decide (a < b))
  | .le, .int a, .int b, _, Q => Q (decide (a ≤ b))
  | .gt, .int a, .int b, _, Q => Q (decide (b < a))
  | .ge, .int a, .int b, _, Q => Q (decide (b ≤ a))
  | .is, v, .none, _, Q => Q v.isNone
  | .isNot, v, .none, _, Q => Q (!v.isNone)
  | .isIn, v, w, σ, Q => inP v w σ Q
  | .notIn, v, w, σ, Q => inP v w σ fun b => Q (!b)
  | _, _, _, _, _ => False

noncomputable def idxP (g : Glb) (o i : V) (σ : Hp) (Q : VP) : Prop :=
  match o, i with
  | .tup vs, .int k => ∃ v, pyGet vs k = some v ∧ Q v σ
  | .script, .int k => ∃ n, pyGet g.ns k = some n ∧ Q (.int n) σ
  | .ref a, i => match σ a with
    | some (.lst vs) => (match i with | .int k => ∃ v, pyGet vs k = some v ∧ Q v σ | _ => False)
    | some (.dct es _) => ∃ k v, (i.key = some k ∧ dget es k = some v) ∧ Q v σ
    | some (.dci es _) => False ∧ ∃ k v, (i = .int k ∧ dget es k = some v) ∧ Q v σ
    | _ => False
  | _, _ => False

noncomputable def optInt : Option V → Option (Option Int)
  | Option.none => some Option.none
  | some (.int i) => some (some i)
  | _ => Option.none

noncomputable def sliceP (g : Glb) (o : V) (l u : Option V) (σ : Hp) (Q : VP) : Prop :=
  ∃ l' u', (optInt l = some l' ∧ optInt u = some u') ∧
  match o with
  | .tup vs => Q (.tup (pySlice vs l' u')) σ
  | .script => newP σ (.lst ((pySlice g.ns l' u').map .int)) Q
  | .ref a => ∃ vs, (σ a = some (.lst vs)) ∧ newP σ (.lst (pySlice vs l' u')) Q
  | _ => False

noncomputable def revP (o : V) (σ : Hp) (Q : VP) : Prop :=
  match o with
  | .ref a => ∃ vs, (σ a = some (.lst vs)) ∧ newP σ (.lst vs.reverse) Q
  | _ => False

/-- what isinstance answers -/
noncomputable def V.isA (σ : Hp) : V → String → Option Bool
  | .none, _ => some false
  | .bool _, t => some (t == "bool" || t == "int")
  | .int _, t => some (t == "int")
  | .str _, t => some (t == "str")
  | .tup _, t => some (t == "tuple")
  | .ref a, t => match σ a with
    | some (.lst _) => some (t == "list")
    | _ => Option.none
  | _, _ => Option.none
noncomputable def isiTypes : List String := ["int", "bool", "str", "tuple", "list"]

/-- the order of keys: ints, or tuples of ints item by item -/
noncomputable def ltL : List Int → List Int → Bool
  | [], [] => false
  | [], _ :: _ => true
  | _ :: _, [] => false
  | a :: r, b :: s => decide (a < b) || (a == b && ltL r s)

noncomputable def lenP (g : Glb) (args : List V) (σ : Hp) (Q : VP) : Prop := match args with
  | [.tup vs] => Q (.int vs.length) σ
  | [.script] => Q (.int g.ns.length) σ
  | [.ref a] => (match σ a with
    | some (.lst vs) => Q (.int vs.length) σ
    | some (.dct es _) => Q (.int es.length) σ
    | _ => False)
  | _ => False
noncomputable def minP (args : List V) (σ : Hp) (Q : VP) : Prop := match args with
  | [.int a, .int b] => Q (.int (min a b)) σ
  | [.ref a] => ∃ vs ns, (σ a = some (.lst vs) ∧ V.ints vs = some ns ∧ ns ≠ []) ∧ ∀ m, m ∈ ns → (∀ b ∈ ns, m ≤ b) → Q (.int m) σ
  | _ => False
noncomputable def maxP (args : List V) (σ : Hp) (Q : VP) : Prop := match args with
  | [.int a, .int b] => Q (.int (max a b)) σ
  | [.ref a] => ∃ vs ns, (σ a = some (.lst vs) ∧ V.ints vs = some ns ∧ ns ≠ []) ∧ ∀ m, m ∈ ns → (∀ b ∈ ns, b ≤ m) → Q (.int m) σ
  | _ => False
noncomputable def sumP (args : List V) (σ : Hp) (Q : VP) : Prop := match args with
  | [.ref a] => ∃ vs ns, (σ a = some (.lst vs) ∧ V.ints vs = some ns) ∧ Q (.int ns.sum) σ
  | _ => False
noncomputable def intP (args : List V) (σ : Hp) (Q : VP) : Prop := match args with
  | [.bool b] => Q (.int (if b then 1 else 0)) σ
  | _ => False
noncomputable def isiP (args : List V) (σ : Hp) (Q : VP) : Prop := match args with
  | [v, .typ t] => t ∈ isiTypes ∧ ∃ b, v.isA σ t = some b ∧ Q (.bool b) σ
  | _ => False
noncomputable def listP (args : List V) (σ : Hp) (Q : VP) : Prop := match args with
  | [.tup vs] => newP σ (.lst vs) Q
  | [.ref a] => (match σ a with
    | some (.lst vs) => newP σ (.lst vs) Q
    | some (.dct es _) => newP σ (.lst (es.map fun e => kv e.1)) Q
    | _ => False)
  | _ => False
noncomputable def tupleP (args : List V) (σ : Hp) (Q : VP) : Prop := match args with
  | [.ref a] => ∃ vs, (σ a = some (.lst vs)) ∧ Q (.tup vs) σ
  | _ => False
noncomputable def sortedP (args : List V) (σ : Hp) (Q : VP) : Prop := match args with
  | [.ref a] => ∃ ks : List (List Int), ((match σ a with
      | some (.lst vs) => vs = ks.map kv
      | some (.dct es _) => es.map (·.1) = ks
      | _ => False) ∧ ks.Nodup ∧ ks.length < 64 ∧ ∀ k ∈ ks, k ≠ []) ∧ ∀ ys : List (List Int), ys.Perm ks → ys.Pairwise (fun x y => ltL x y = true) → newP σ (.lst (ys.map kv)) Q
  | _ => False
noncomputable def biP (g : Glb) (f : Bi) (args : List V) (σ : Hp) (Q : VP) : Prop := match f with
  | .len => lenP g args σ Q
  | .min => minP args σ Q
  | .max => maxP args σ Q
  | .sum => sumP args σ Q
  | .int => intP args σ Q
  | .isinstance => isiP args σ Q
  | .list => listP args σ Q
  | .tuple => tupleP args σ Q
  | .sorted => sortedP args σ Q
  | _ => False

noncomputable def methP (g : Glb) (o : V) (m : Me) (args : List V) (σ : Hp) (Q : VP) (X : XP) : Prop :=
  match o with
  | .ref a => match σ a with
    | some (.lst vs) => (match m, args with
      | .append, [v] => lenOk vs.length ∧ Q .none (σ.set a (.lst (vs ++ [v])))
      | .pop, [] => ∃ v, vs.getLast? = some v ∧ Q v (σ.set a (.lst vs.dropLast))
      | .clear, [] => Q .none (σ.set a (.lst []))
      | .index, [v] => ∃ d ds j, (snap σ 40 v = some d ∧ optAll (snap σ 40) vs = some ds ∧ ds.findIdx? (fun e => PyData.eqv e d) = some j) ∧ Q (.int j) σ
      | _, _ => False)
    | some (.dct es _) => (match m, args with
      | .get, [k] => ∃ k', k.key = some k' ∧ Q ((dget es k').getD .none) σ
      | .popk, [k] => ∃ k' v, (k.key = some k' ∧ dget es k' = some v) ∧ ∀ ep', Q v (σ.set a (.dct (ddel es k') ep'))
      | .update, [.ref b] => ∃ es2 ep2, (σ b = some (.dct es2 ep2) ∧ a ≠ b) ∧ ∀ ep', Q .none (σ.set a (.dct (es2.foldl (fun e kv => dput e kv.1 kv.2) es) ep'))
      | _, _ => False)
    | some (.inst c _) => (match m with | .own n => g.call (c ++ "." ++ n) (.ref a :: args) σ Q X | _ => False)
    | _ => False
  | _ => False

/-- what a method is asked of -/
noncomputable def recv (o : V) (m : Me) (σ : Hp) : Prop :=
  match o with
  | .ref a => match σ a, m with
    | some (.lst _), .append | some (.lst _), .pop | some (.lst _), .clear => True
    | some (.lst _), .index => False
    | some (.dct _ _), .get | some (.dct _ _), .popk | some (.dct _ _), .update => False
    | some (.inst _ _), .own _ => False
    | _, _ => False
  | _ => False

noncomputable def attrP (o : V) (n : String) (σ : Hp) (Q : VP) : Prop :=
  match o with
  | .ref a => ∃ c d m v, (σ a = some (.inst c d) ∧ σ d = some (.attrs m) ∧ m n = some v) ∧ Q v σ
  | _ => False

/-! ## sources of loops -/
abbrev SrcP := List V → (Hp → Prop) → Hp → Prop
noncomputable def rangeL (lo hi : Int) : List V := (List.range (hi - lo).toNat).map fun (i : Nat) => .int (lo + i)

noncomputable def srcOf (v : V) (σ : Hp) (K : SrcP) : Prop :=
  match v with
  | .tup vs => K vs (fun _ => True) σ
  | .ref a => match σ a with
    | some (.lst vs) => K vs (fun σ' => σ' a = some (.lst vs)) σ
    | some (.dct es ep) => K (es.map fun e => kv e.1) (fun σ' => σ' a = some (.dct es ep)) σ
    | some (.dci es ep) => False ∧ K (es.map fun e => .int e.1) (fun σ' => σ' a = some (.dci es ep)) σ
    | _ => False
  | _ => False

noncomputable def rangeP (lo hi : V) (σ : Hp) (K : SrcP) : Prop :=
  match lo, hi with
  | .int a, .int b => (lenOk (b - a).toNat) ∧ K (rangeL a b) (fun _ => True) σ
  | _, _ => False

/-- the items in turn: each passed by, or something made of it -/
noncomputable def compL (one : V → Hp → (Option V → Hp → Prop) → Prop) (chk : Hp → Prop) : List V → List V → Hp → (List V → Hp → Prop) → Prop
  | [], acc, σ, K => chk σ ∧ K acc σ
  | v :: vs, acc, σ, K => chk σ ∧ lenOk acc.length ∧ one v σ fun r σ' => compL one chk vs (match r with | some x => acc ++ [x] | Option.none => acc) σ' K

noncomputable def forL (body : V → Env → Hp → (Env → Hp → Prop) → Prop) (chk : Hp → Prop) : List V → Env → Hp → (Env → Hp → Prop) → Prop
  | [], ρ, σ, N => chk σ ∧ N ρ σ
  | v :: vs, ρ, σ, N => chk σ ∧ body v ρ σ fun ρ' σ' => forL body chk vs ρ' σ' N

noncomputable def whileL (t : Env → Hp → (Bool → Hp → Prop) → Prop) (b : Env → Hp → (Env → Hp → Prop) → Prop) : Nat → Env → Hp → (Env → Hp → Prop) → Prop
  | 0, _, _, _ => False
  | n + 1, ρ, σ, N => t ρ σ fun c σ' => if c = true then b ρ σ' fun ρ'' σ'' => whileL t b n ρ'' σ'' N else N ρ σ'

noncomputable def setAll : List String → List V → Env → Env
  | x :: xs, v :: vs, ρ => setAll xs vs (ρ.set x v)
  | _, _, ρ => ρ

/-! ## the transformers -/
mutual
noncomputable def wpE (g : Glb) : X → Env → Hp → VP → XP → Prop
  | .none, _, σ, Q, _ => Q .none σ
  | .bool b, _, σ, Q, _ => Q (.bool b) σ
  | .num i, _, σ, Q, _ => Q (.int i) σ
  | .str s, _, σ, Q, _ => Q (.str s) σ
  | .var x, ρ, σ, Q, _ => ∃ v, ρ x = some v ∧ Q v σ
  | .glob x, _, σ, Q, _ => ∃ v, g.glob x = some v ∧ Q v σ
  | .bin op a b, ρ, σ, Q, X => wpE g a ρ σ (fun v σ₁ => wpE g b ρ σ₁ (fun w σ₂ => binP op v w σ₂ Q) X) X
  | .neg a, ρ, σ, Q, X => wpE g a ρ σ (fun v σ₁ => ∃ i, v = .int i ∧ Q (.int (-i)) σ₁) X
  | .not a, ρ, σ, Q, X => wpE g a ρ σ (fun v σ₁ => ∃ b, truth v = some b ∧ Q (.bool (!b)) σ₁) X
  | .bop isAnd l, ρ, σ, Q, X => wpBop g isAnd l ρ σ Q X
  | .cmp a op b, ρ, σ, Q, X => wpE g a ρ σ (fun v σ₁ => wpE g b ρ σ₁ (fun w σ₂ => cmpP op v w σ₂ fun c => Q (.bool c) σ₂) X) X
  | .cmp2 a op b op2 c, ρ, σ, Q, X => wpE g a ρ σ (fun v σ₁ => wpE g b ρ σ₁ (fun w σ₂ => cmpP op v w σ₂ fun r =>
      if r = true then wpE g c ρ σ₂ (fun u σ₃ => cmpP op2 w u σ₃ fun r' => Q (.bool r') σ₃) X else Q (.bool false) σ₂) X) X
  | .call f args, ρ, σ, Q, X => g.has f = true ∧ wpEs g args ρ σ (fun vs σ₁ => g.call f vs σ₁ Q X) X
  | .bi f args, ρ, σ, Q, X => wpEs g args ρ σ (fun vs σ₁ => biP g f vs σ₁ Q) X
  | .meth o m args, ρ, σ, Q, X => wpE g o ρ σ (fun v σ₁ => recv v m σ₁ ∧ wpEs g args ρ σ₁ (fun vs σ₂ => methP g v m vs σ₂ Q X) X) X
  | .idx o i, ρ, σ, Q, X => wpE g o ρ σ (fun v σ₁ => wpE g i ρ σ₁ (fun w σ₂ => idxP g v w σ₂ Q) X) X
  | .slice o l u, ρ, σ, Q, X => wpE g o ρ σ (fun v σ₁ => wpO g l ρ σ₁ (fun l' σ₂ => wpO g u ρ σ₂ (fun u' σ₃ => sliceP g v l' u' σ₃ Q) X) X) X
  | .rev o, ρ, σ, Q, X => False ∧ wpE g o ρ σ (fun v σ₁ => revP v σ₁ Q) X
  | .attr o n, ρ, σ, Q, X => False ∧ wpE g o ρ σ (fun v σ₁ => attrP v n σ₁ Q) X
  | .tup l, ρ, σ, Q, X => wpEs g l ρ σ (fun vs σ₁ => Q (.tup vs) σ₁) X
  | .lst l, ρ, σ, Q, X => wpEs g l ρ σ (fun vs σ₁ => newP σ₁ (.lst vs) Q) X
  | .emptyDict, _, σ, Q, _ => newP σ (.dct [] 0) Q
  | .dict1 k v, ρ, σ, Q, X => False ∧ wpE g k ρ σ (fun kv σ₁ => wpE g v ρ σ₁ (fun vv σ₂ => (∃ k, kv.key = some k ∧ ∀ ep, newP σ₂ (.dct [(k, vv)] ep) Q) ∨ (∃ k, kv = .int k ∧ ∀ ep, newP σ₂ (.dci [(k, vv)] ep) Q)) X) X
  | .comp elt x src ifs, ρ, σ, Q, X => wpSrc g src ρ σ (fun items chk σ₁ =>
      compL (fun v σ₂ K => wpIfs g ifs (ρ.set x v) σ₂ (fun b σ₃ => if b = true then wpE g elt (ρ.set x v) σ₃ (fun r σ₄ => K (some r) σ₄) X else K Option.none σ₃) X)
        chk items [] σ₁ fun vs σ₂ => newP σ₂ (.lst vs) Q) X
noncomputable def wpEs (g : Glb) : List X → Env → Hp → (List V → Hp → Prop) → XP → Prop
  | [], _, σ, Q, _ => Q [] σ
  | e :: es, ρ, σ, Q, X => wpE g e ρ σ (fun v σ₁ => wpEs g es ρ σ₁ (fun vs σ₂ => Q (v :: vs) σ₂) X) X
noncomputable def wpBop (g : Glb) (isAnd : Bool) : List X → Env → Hp → VP → XP → Prop
  | [], _, _, _, _ => False
  | [e], ρ, σ, Q, X => wpE g e ρ σ Q X
  | e :: e' :: es, ρ, σ, Q, X => wpE g e ρ σ (fun v σ₁ => ∃ b, truth v = some b ∧ if b = isAnd then wpBop g isAnd (e' :: es) ρ σ₁ Q X else Q v σ₁) X
noncomputable def wpO (g : Glb) : Option X → Env → Hp → (Option V → Hp → Prop) → XP → Prop
  | Option.none, _, σ, Q, _ => Q Option.none σ
  | some e, ρ, σ, Q, X => wpE g e ρ σ (fun v σ₁ => Q (some v) σ₁) X
noncomputable def wpIfs (g : Glb) : List X → Env → Hp → (Bool → Hp → Prop) → XP → Prop
  | [], _, σ, Q, _ => Q true σ
  | e :: es, ρ, σ, Q, X => wpE g e ρ σ (fun v σ₁ => ∃ b, truth v = some b ∧ if b = true then wpIfs g es ρ σ₁ Q X else Q false σ₁) X
noncomputable def wpSrc (g : Glb) : Src → Env → Hp → SrcP → XP → Prop
  | .range1 hi, ρ, σ, K, X => wpE g hi ρ σ (fun v σ₁ => rangeP (.int 0) v σ₁ K) X
  | .range2 lo hi, ρ, σ, K, X => wpE g lo ρ σ (fun v σ₁ => wpE g hi ρ σ₁ (fun w σ₂ => rangeP v w σ₂ K) X) X
  | .of e, ρ, σ, K, X => wpE g e ρ σ (fun v σ₁ => srcOf v σ₁ K) X
end

/-- the test of a statement -/
noncomputable def wpT (g : Glb) (e : X) (ρ : Env) (σ : Hp) (Q : Bool → Hp → Prop) (X : XP) : Prop := wpE g e ρ σ (fun v σ₁ => ∃ b, truth v = some b ∧ Q b σ₁) X

noncomputable def storeP (o i v : V) (σ : Hp) (N : Hp → Prop) : Prop :=
  match o with
  | .ref a => match σ a with
    | some (.lst vs) => (match i with | .int k => (0 ≤ k ∧ k.toNat < vs.length) ∧ N (σ.set a (.lst (vs.set k.toNat v))) | _ => False)
    | some (.dct es _) => ∃ k, (i.key = some k ∧ lenOk es.length) ∧ ∀ ep', N (σ.set a (.dct (dput es k v) ep'))
    | some (.dci es ep) => False ∧ ∃ k, (i = .int k ∧ lenOk es.length) ∧ ∀ ep', ((dget es k).isSome → ep' = ep) → N (σ.set a (.dci (dput es k v) ep'))
    | _ => False
  | _ => False

abbrev NP := Env → Hp → Prop
abbrev XPS := String → Env → Hp → Prop

noncomputable def wpA (g : Glb) : T → V → Env → Hp → NP → XP → Prop
  | .var x, v, ρ, σ, N, _ => N (ρ.set x v) σ
  | .idx o i, v, ρ, σ, N, X => wpE g o ρ σ (fun ov σ₁ => wpE g i ρ σ₁ (fun iv σ₂ => storeP ov iv v σ₂ fun σ₃ => N ρ σ₃) X) X
  | .attr o n, v, ρ, σ, N, X => False ∧ wpE g o ρ σ (fun ov σ₁ => ∃ a c d m, (ov = .ref a ∧ σ₁ a = some (.inst c d) ∧ σ₁ d = some (.attrs m)) ∧ N ρ (σ₁.set d (.attrs fun y => if y = n then some v else m y))) X
  | .tup xs, v, ρ, σ, N, _ => False ∧ ∃ vs, (v = .tup vs ∧ vs.length = xs.length) ∧ N (setAll xs vs ρ) σ

mutual
noncomputable def wpS (g : Glb) : S → Env → Hp → NP → VP → XPS → Prop
  | .ret e, ρ, σ, _, R, X => wpE g e ρ σ R fun x σ' => X x ρ σ'
  | .expr e, ρ, σ, N, _, X => wpE g e ρ σ (fun _ σ₁ => N ρ σ₁) fun x σ' => X x ρ σ'
  | .assign t e, ρ, σ, N, _, X => wpE g e ρ σ (fun v σ₁ => wpA g t v ρ σ₁ N fun x σ' => X x ρ σ') fun x σ' => X x ρ σ'
  | .ite c a b, ρ, σ, N, R, X => wpT g c ρ σ (fun t σ₁ => if t = true then wpSs g a ρ σ₁ N R X else wpSs g b ρ σ₁ N R X) fun x σ' => X x ρ σ'
  | .for_ x src body, ρ, σ, N, R, X => wpSrc g src ρ σ (fun items chk σ₁ => forL (fun v ρ₁ σ₂ N' => wpSs g body (ρ₁.set x v) σ₂ N' R X) chk items ρ σ₁ N) fun x σ' => X x ρ σ'
  | .while_ c body, ρ, σ, N, R, X => ∃ n, whileL (fun ρ₁ σ₁ Q => wpT g c ρ₁ σ₁ Q fun x σ' => X x ρ₁ σ') (fun ρ₁ σ₁ N' => wpSs g body ρ₁ σ₁ N' R X) n ρ σ N
  | .raise c, ρ, σ, _, _, X => X c ρ σ
  | .try_ body hs, ρ, σ, N, R, X => False ∧ wpSs g body ρ σ N R fun x ρ₁ σ₁ => wpH g hs x ρ₁ σ₁ N R X
  | .pass, ρ, σ, N, _, _ => N ρ σ
noncomputable def wpSs (g : Glb) : List S → Env → Hp → NP → VP → XPS → Prop
  | [], ρ, σ, N, _, _ => N ρ σ
  | s :: ss, ρ, σ, N, R, X => wpS g s ρ σ (fun ρ₁ σ₁ => wpSs g ss ρ₁ σ₁ N R X) R X
noncomputable def wpH (g : Glb) : List (String × Option String × List S) → String → Env → Hp → NP → VP → XPS → Prop
  | [], x, ρ, σ, _, _, X => X x ρ σ
  | (c, as_, body) :: hs, x, ρ, σ, N, R, X =>
    if c = x ∨ c = "SheetError" then wpSs g body (match as_ with | some n => ρ.set n (.exc x) | Option.none => ρ) σ (fun ρ' σ' => N (match as_ with | some n => fun y => if y = n then Option.none else ρ' y | Option.none => ρ') σ') R X
    else wpH g hs x ρ σ N R X
end

/-- parameters -/
noncomputable def bindP : List String → List V → Env
  | x :: xs, v :: vs => (bindP xs vs).set x v
  | _, _ => fun _ => Option.none

end RS

namespace RS
open PySem (PyData)

/-! ## heaps that grow -/
noncomputable def Hp.le (σ σ' : Hp) : Prop := ∀ a c, σ a = some c → σ' a = some c
theorem Hp.le_refl (σ : Hp) : σ.le σ := fun _ _ h => h
theorem Hp.le_trans {σ τ υ : Hp} (h : σ.le τ) (k : τ.le υ) : σ.le υ := fun a c e => k a c (h a c e)
theorem Hp.le_set {σ : Hp} {a : Nat} (c : Cell) (h : σ a = none) : σ.le (σ.set a c) := fun b d e => by
  unfold Hp.set
  split
  · rename_i hb; subst hb; rw [h] at e; cases e
  · exact e
theorem Hp.set_same (σ : Hp) (a : Nat) (c : Cell) : σ.set a c a = some c := by simp [Hp.set]
theorem Hp.set_ne (σ : Hp) {a b : Nat} (c : Cell) (h : b ≠ a) : σ.set a c b = σ b := by simp [Hp.set, h]
theorem Env.set_same (ρ : Env) (x : String) (v : V) : ρ.set x v x = some v := by simp [Env.set]
theorem Env.set_ne (ρ : Env) {x y : String} (v : V) (h : y ≠ x) : ρ.set x v y = ρ y := by simp [Env.set, h]

/-! ## loops -/
theorem forL_inv {body : V → Env → Hp → (Env → Hp → Prop) → Prop} {chk : Hp → Prop} (I : List V → Env → Hp → Prop) {items : List V} {ρ : Env} {σ : Hp} {N : Env → Hp → Prop}
    (h0 : I [] ρ σ) (hc : ∀ pre ρ σ, I pre ρ σ → chk σ)
    (ht : ∀ pre v post ρ σ N', items = pre ++ v :: post → I pre ρ σ → (∀ ρ' σ', I (pre ++ [v]) ρ' σ' → N' ρ' σ') → body v ρ σ N')
    (hN : ∀ ρ σ, I items ρ σ → N ρ σ) : forL body chk items ρ σ N := by
  suffices H : ∀ (post pre : List V) ρ σ, items = pre ++ post → I pre ρ σ → forL body chk post ρ σ N from H items [] ρ σ rfl h0
  intro post
  induction post with
  | nil => intro pre ρ σ e i; simp at e; subst e; exact ⟨hc _ _ _ i, hN _ _ i⟩
  | cons v post ih =>
    intro pre ρ σ e i
    refine ⟨hc _ _ _ i, ht pre v post ρ σ _ e i fun ρ' σ' i' => ih (pre ++ [v]) ρ' σ' (by simp [e]) i'⟩

/-- over a range, by the number -/
theorem forL_range {body : V → Env → Hp → (Env → Hp → Prop) → Prop} {chk : Hp → Prop} {lo hi : Int} (I : Nat → Env → Hp → Prop) {ρ : Env} {σ : Hp} {N : Env → Hp → Prop}
    (h0 : I 0 ρ σ) (hc : ∀ σ, chk σ)
    (ht : ∀ (i : Nat) ρ σ N', lo + i < hi → I i ρ σ → (∀ ρ' σ', I (i + 1) ρ' σ' → N' ρ' σ') → body (.int (lo + i)) ρ σ N')
    (hN : ∀ ρ σ, I (hi - lo).toNat ρ σ → N ρ σ) : forL body chk (rangeL lo hi) ρ σ N := by
  suffices H : ∀ (n k : Nat) ρ σ, (hi - lo).toNat = k + n → I k ρ σ → forL body chk ((List.range' k n).map fun (i : Nat) => V.int (lo + i)) ρ σ N by
    have := H (hi - lo).toNat 0 ρ σ (by omega) h0
    rwa [← List.range_eq_range'] at this
  intro n
  induction n with
  | zero => intro k ρ σ e i; exact ⟨hc _, hN _ _ (by rw [e]; exact i)⟩
  | succ n ih =>
    intro k ρ σ e i
    rw [List.range'_succ, List.map_cons]
    exact ⟨hc _, ht k ρ σ _ (by omega) i fun ρ' σ' i' => ih (k + 1) ρ' σ' (by omega) i'⟩

/-! ## steps -/
section
variable {g : Glb} {σ : Hp} {Q : VP} {B : Bool → Prop} {K : SrcP}
theorem s_get {α : Type} {o : Option α} {v : α} {P : α → Prop} (h : o = some v) (q : P v) : ∃ v, o = some v ∧ P v := ⟨v, h, q⟩
theorem s_truth {v : V} {b : Bool} {P : Bool → Prop} (h : truth v = some b) (q : P b) : ∃ b, truth v = some b ∧ P b := ⟨b, h, q⟩
theorem s_add {a b : Int} (q : Q (.int (a + b)) σ) : binP .add (.int a) (.int b) σ Q := q
theorem s_sub {a b : Int} (q : Q (.int (a - b)) σ) : binP .sub (.int a) (.int b) σ Q := q
theorem s_mul {a b : Int} (h : small a ∨ small b) (q : Q (.int (a * b)) σ) : binP .mul (.int a) (.int b) σ Q := ⟨h, q⟩
theorem s_fdiv {a b : Int} (h : 0 < b ∧ small b) (q : Q (.int (a / b)) σ) : binP .fdiv (.int a) (.int b) σ Q := ⟨h, q⟩
theorem s_mod {a b : Int} (h : 0 < b) (q : Q (.int (a % b)) σ) : binP .mod (.int a) (.int b) σ Q := ⟨h, q⟩
theorem s_pow {a b : Int} (h : small a ∧ 0 ≤ b ∧ b ≤ 1000) (q : Q (.int (a ^ b.toNat)) σ) : binP .pow (.int a) (.int b) σ Q := ⟨h, q⟩
theorem s_cat {xs ys : List V} (h : xs ≠ [] ∧ ys ≠ [] ∧ lenOk (xs.length + ys.length)) (q : Q (.tup (xs ++ ys)) σ) : binP .add (.tup xs) (.tup ys) σ Q := ⟨h, q⟩
theorem s_lcat {a b : Nat} {xs ys : List V} (ha : σ a = some (.lst xs)) (hb : σ b = some (.lst ys)) (hl : lenOk (xs.length + ys.length))
    (q : ∀ c, σ c = none → Q (.ref c) (σ.set c (.lst (xs ++ ys)))) : binP .add (.ref a) (.ref b) σ Q := ⟨xs, ys, ⟨ha, hb, hl⟩, q⟩
theorem s_idxT {vs : List V} {k : Int} {v : V} (h : pyGet vs k = some v) (q : Q v σ) : idxP g (.tup vs) (.int k) σ Q := ⟨v, h, q⟩
theorem s_idxL {a : Nat} {vs : List V} {k : Int} {v : V} (ha : σ a = some (.lst vs)) (h : pyGet vs k = some v) (q : Q v σ) : idxP g (.ref a) (.int k) σ Q := by
  simp only [idxP, ha]; exact ⟨v, h, q⟩
theorem s_idxS {k : Int} {n : Int} (h : pyGet g.ns k = some n) (q : Q (.int n) σ) : idxP g .script (.int k) σ Q := ⟨n, h, q⟩
theorem s_min2 {a b : Int} (q : Q (.int (min a b)) σ) : biP g .min [.int a, .int b] σ Q := q
theorem s_max2 {a b : Int} (q : Q (.int (max a b)) σ) : biP g .max [.int a, .int b] σ Q := q
theorem s_lenT {vs : List V} (q : Q (.int vs.length) σ) : biP g .len [.tup vs] σ Q := q
theorem s_lenS (q : Q (.int g.ns.length) σ) : biP g .len [.script] σ Q := q
theorem s_lenL {a : Nat} {vs : List V} (ha : σ a = some (.lst vs)) (q : Q (.int vs.length) σ) : biP g .len [.ref a] σ Q := by show lenP g [.ref a] σ Q; simp only [lenP, ha]; exact q
theorem s_int {b : Bool} (q : Q (.int (if b then 1 else 0)) σ) : biP g .int [.bool b] σ Q := q
theorem s_isi {v : V} {t : String} {b : Bool} (ht : t ∈ isiTypes) (h : v.isA σ t = some b) (q : Q (.bool b) σ) : biP g .isinstance [v, .typ t] σ Q := ⟨ht, b, h, q⟩
theorem s_listT {vs : List V} (q : ∀ a, σ a = none → Q (.ref a) (σ.set a (.lst vs))) : biP g .list [.tup vs] σ Q := q
theorem s_tuple {a : Nat} {vs : List V} (ha : σ a = some (.lst vs)) (q : Q (.tup vs) σ) : biP g .tuple [.ref a] σ Q := ⟨vs, ha, q⟩
theorem s_eqI {a b : Int} (q : B (decide (a = b))) : cmpP .eq (.int a) (.int b) σ B := q
theorem s_eqS {a b : String} (q : B (decide (a = b))) : cmpP .eq (.str a) (.str b) σ B := q
theorem s_neI {a b : Int} (q : B (!decide (a = b))) : cmpP .ne (.int a) (.int b) σ B := q
theorem s_neS {a b : String} (q : B (!decide (a = b))) : cmpP .ne (.str a) (.str b) σ B := q
theorem s_lt {a b : Int} (q : B (decide (a < b))) : cmpP .lt (.int a) (.int b) σ B := q
theorem s_le {a b : Int} (q : B (decide (a ≤ b))) : cmpP .le (.int a) (.int b) σ B := q
theorem s_gt {a b : Int} (q : B (decide (b < a))) : cmpP .gt (.int a) (.int b) σ B := q
theorem s_ge {a b : Int} (q : B (decide (b ≤ a))) : cmpP .ge (.int a) (.int b) σ B := q
theorem s_append {a : Nat} {vs : List V} {v : V} {X : XP} (ha : σ a = some (.lst vs)) (hl : lenOk vs.length) (q : Q .none (σ.set a (.lst (vs ++ [v])))) : methP g (.ref a) .append [v] σ Q X := by
  simp only [methP, ha]; exact ⟨hl, q⟩
theorem s_range {a b : Int} (h : lenOk (b - a).toNat) (q : K (rangeL a b) (fun _ => True) σ) : rangeP (.int a) (.int b) σ K := ⟨h, q⟩
theorem s_srcT {vs : List V} (q : K vs (fun _ => True) σ) : srcOf (.tup vs) σ K := q
theorem s_srcL {a : Nat} {vs : List V} (ha : σ a = some (.lst vs)) (q : K vs (fun σ' => σ' a = some (.lst vs)) σ) : srcOf (.ref a) σ K := by simp only [srcOf, ha]; exact q
theorem s_sliceT {vs : List V} {l u : Option V} {l' u' : Option Int} (hl : optInt l = some l') (hu : optInt u = some u') (q : Q (.tup (pySlice vs l' u')) σ) : sliceP g (.tup vs) l u σ Q := ⟨l', u', ⟨hl, hu⟩, q⟩
theorem s_sliceS {l u : Option V} {l' u' : Option Int} (hl : optInt l = some l') (hu : optInt u = some u') (q : ∀ a, σ a = none → Q (.ref a) (σ.set a (.lst ((pySlice g.ns l' u').map .int)))) : sliceP g .script l u σ Q := ⟨l', u', ⟨hl, hu⟩, q⟩
theorem s_sliceL {a : Nat} {vs : List V} {l u : Option V} {l' u' : Option Int} (ha : σ a = some (.lst vs)) (hl : optInt l = some l') (hu : optInt u = some u')
    (q : ∀ c, σ c = none → Q (.ref c) (σ.set c (.lst (pySlice vs l' u')))) : sliceP g (.ref a) l u σ Q := ⟨l', u', ⟨hl, hu⟩, vs, ha, q⟩
end

section
variable {g : Glb} {σ : Hp} {Q : VP}
end

/-! ## statements, one by one -/
theorem st_cons {g : Glb} {s : S} {ss : List S} {ρ : Env} {σ : Hp} {N : NP} {R : VP} {X : XPS} (h : wpS g s ρ σ (fun ρ₁ σ₁ => wpSs g ss ρ₁ σ₁ N R X) R X) : wpSs g (s :: ss) ρ σ N R X := h
theorem st_nil {g : Glb} {ρ : Env} {σ : Hp} {N : NP} {R : VP} {X : XPS} (h : N ρ σ) : wpSs g [] ρ σ N R X := h
theorem s_call {g : Glb} {f : String} {P : Prop} (h : g.has f = true) (q : P) : g.has f = true ∧ P := ⟨h, q⟩
theorem s_recv {v : V} {m : Me} {σ : Hp} {P : Prop} (h : recv v m σ) (q : P) : recv v m σ ∧ P := ⟨h, q⟩
theorem s_recvL {a : Nat} {vs : List V} {σ : Hp} {m : Me} (ha : σ a = some (.lst vs)) (hm : m = .append ∨ m = .pop ∨ m = .clear) : recv (.ref a) m σ := by
  rcases hm with rfl | rfl | rfl <;> simp [recv, ha]
theorem s_newG {c : Cell} {σ : Hp} {Q : VP} (q : ∀ a σ', σ a = none → σ.le σ' → σ' a = some c → Q (.ref a) σ') : newP σ c Q := fun a ha => q a _ ha (Hp.le_set _ ha) (Hp.set_same _ _ _)
theorem s_neg {i : Int} {P : Int → Prop} (q : P i) : ∃ j, V.int i = V.int j ∧ P j := ⟨i, rfl, q⟩
/-- one cell is changed -/
noncomputable def Hp.but (a : Nat) (σ σ' : Hp) : Prop := ∀ b, b ≠ a → σ' b = σ b
theorem s_appendG {g : Glb} {σ : Hp} {Q : VP} {a : Nat} {vs : List V} {v : V} {X : XP} (ha : σ a = some (.lst vs)) (hl : lenOk vs.length) (q : ∀ σ', Hp.but a σ σ' → σ' a = some (.lst (vs ++ [v])) → Q .none σ') : methP g (.ref a) .append [v] σ Q X :=
  s_append ha hl (q _ (fun b hb => Hp.set_ne _ _ hb) (Hp.set_same _ _ _))
theorem s_if {c : Prop} [Decidable c] {A B : Prop} (hA : c → A) (hB : ¬ c → B) : if c then A else B := by
  by_cases h : c
  · rw [if_pos h]; exact hA h
  · rw [if_neg h]; exact hB h
theorem s_ifT {c : Prop} [Decidable c] {A B : Prop} (h : c) (q : A) : if c then A else B := by rw [if_pos h]; exact q
theorem s_ifF {c : Prop} [Decidable c] {A B : Prop} (h : ¬ c) (q : B) : if c then A else B := by rw [if_neg h]; exact q

/-- one step forward -/
local macro_rules | `(tactic| tb_rel) => `(tactic| (first
  | refine s_get (by first | rfl | assumption) ?_
  | refine s_idxT (by first | rfl | assumption) ?_
  | refine s_add ?_ | refine s_sub ?_ | refine s_eqS ?_ | refine s_eqI ?_ | refine s_neI ?_ | refine s_neS ?_ | refine s_lt ?_ | refine s_le ?_ | refine s_gt ?_ | refine s_ge ?_
  | refine s_mod (by omega) ?_ | refine s_fdiv ⟨by omega, by constructor <;> omega⟩ ?_
  | refine s_min2 ?_ | refine s_max2 ?_ | refine s_lenT ?_ | refine s_lenS ?_
  | refine s_truth rfl ?_
  | refine s_lenL (by assumption) ?_
  | refine s_idxL (by assumption) (by first | rfl | assumption) ?_
  | refine s_isi (by decide) (by first | rfl | assumption) ?_))
end RS

namespace RS
open PySem (Program World Shared Addr Value Obj Heap Str Around wpAny codeAny model Scope NameKind Expr Stmt FuncData cLine recursionLimit sizeLine mainGlobals builtinsNs)

/-- the fixed parts of one run -/
structure Wd where
  prog : Program
  w : World
  s₀ : Shared
  sa : Addr
  ns : List Int
  cls : String → Option Addr
  glob : String → Option V
  names : List String
  fn : String → Option Addr
  mg : Str → Option Value
  mb : Str → Option Value

mutual
inductive Rep (W : Wd) (h : Heap) : V → Value → Prop
  | none : Rep W h .none .none
  | bool (b : Bool) : Rep W h (.bool b) (.bool b)
  | int (i : Int) (t : Nat) : Rep W h (.int i) (.int i t)
  | str (s : String) (t : Nat) : Rep W h (.str s) (.str (Str.ofString s) t)
  | tup {vs : List V} {a : Addr} {items : Array Value} {n : Nat} : items.size ≤ 1000001 → h.get? a = some { cls := .type "tuple", data := .seq items n } → Reps W h vs items.toList → Rep W h (.tup vs) (.ref a)
  | ref (a : Addr) : Rep W h (.ref a) (.ref a)
  | script : Rep W h .script (.ref W.sa)
  | typ (n : String) : Rep W h (.typ n) (.type n)
  | cls {n : String} {C : Addr} : W.cls n = some C → Rep W h (.cls n) (.ref C)
inductive Reps (W : Wd) (h : Heap) : List V → List Value → Prop
  | nil : Reps W h [] []
  | cons {v : V} {x : Value} {vs : List V} {xs : List Value} : Rep W h v x → Reps W h vs xs → Reps W h (v :: vs) (x :: xs)
end

/-- a tuple as it lies -/
noncomputable def isTup (o : Obj) : Prop := o.cls = .type "tuple" ∧ ∃ i n, o.data = .seq i n
theorem notTup_cls {o : Obj} (h : o.cls ≠ .type "tuple") : ¬ isTup o := fun x => h x.1
theorem notTup_dict {o : Obj} {es : Array PySem.DictEntry} {ep : Nat} (h : o.data = .dict es ep) : ¬ isTup o := fun ⟨_, _, _, x⟩ => by rw [h] at x; cases x
/-- tuples stay -/
noncomputable def TupKeep (h h' : Heap) : Prop := ∀ a o, h.get? a = some o → isTup o → h'.get? a = some o
theorem TupKeep.refl (h : Heap) : TupKeep h h := fun _ _ e _ => e
theorem TupKeep.trans {h h' h'' : Heap} (x : TupKeep h h') (y : TupKeep h' h'') : TupKeep h h'' := fun a o e k => y a o (x a o e k) k
theorem TupKeep.key {W : Wd} {h h' : Heap} (x : TupKeep h h') (ks : List Int) (b : Addr) (k : PySem.IsTupleKey (PySem.intKind W.prog W.w) h ks b) : PySem.IsTupleKey (PySem.intKind W.prog W.w) h' ks b :=
  let ⟨o, i, n, e, c, r⟩ := k; ⟨o, i, n, x b o e ⟨c, i, n, r.1⟩, c, r⟩

mutual
theorem Rep.mono {W : Wd} {h h' : Heap} (k : TupKeep h h') : ∀ {v : V} {x : Value}, Rep W h v x → Rep W h' v x
  | _, _, .none => .none
  | _, _, .bool b => .bool b
  | _, _, .int i t => .int i t
  | _, _, .str s t => .str s t
  | _, _, .tup z e r => .tup z (k _ _ e ⟨rfl, _, _, rfl⟩) (Reps.mono k r)
  | _, _, .ref a => .ref a
  | _, _, .script => .script
  | _, _, .typ n => .typ n
  | _, _, .cls e => .cls e
theorem Reps.mono {W : Wd} {h h' : Heap} (k : TupKeep h h') : ∀ {vs : List V} {xs : List Value}, Reps W h vs xs → Reps W h' vs xs
  | _, _, .nil => .nil
  | _, _, .cons r rs => .cons (Rep.mono k r) (Reps.mono k rs)
end

theorem Reps.length {W : Wd} {h : Heap} : ∀ {vs : List V} {xs : List Value}, Reps W h vs xs → vs.length = xs.length
  | _, _, .nil => rfl
  | _, _, .cons _ rs => by simp [rs.length]
theorem Reps.get {W : Wd} {h : Heap} : ∀ {vs : List V} {xs : List Value} (_ : Reps W h vs xs) {i : Nat} {v : V}, vs[i]? = some v → ∃ x, xs[i]? = some x ∧ Rep W h v x
  | _, _, .nil, _, _, e => by simp at e
  | _, _, .cons (x := x) r rs, 0, v, e => by simp at e; subst e; exact ⟨x, rfl, r⟩
  | _, _, .cons r rs, i + 1, v, e => by simp at e; obtain ⟨x, hx, hr⟩ := rs.get e; exact ⟨x, by simpa using hx, hr⟩
theorem Reps.append {W : Wd} {h : Heap} : ∀ {vs : List V} {xs : List Value} {ws : List V} {ys : List Value}, Reps W h vs xs → Reps W h ws ys → Reps W h (vs ++ ws) (xs ++ ys)
  | _, _, _, _, .nil, q => q
  | _, _, _, _, .cons r rs, q => .cons r (rs.append q)
theorem Reps.take {W : Wd} {h : Heap} : ∀ {vs : List V} {xs : List Value} (_ : Reps W h vs xs) (n : Nat), Reps W h (vs.take n) (xs.take n)
  | _, _, _, 0 => by simp; exact .nil
  | _, _, .nil, n + 1 => by simp; exact .nil
  | _, _, .cons r rs, n + 1 => by simp; exact .cons r (rs.take n)
theorem Reps.drop {W : Wd} {h : Heap} : ∀ {vs : List V} {xs : List Value} (_ : Reps W h vs xs) (n : Nat), Reps W h (vs.drop n) (xs.drop n)
  | _, _, q, 0 => by simpa using q
  | _, _, .nil, n + 1 => by simp; exact .nil
  | _, _, .cons r rs, n + 1 => by simpa using rs.drop n
theorem Reps.one {W : Wd} {h : Heap} {v : V} {x : Value} (r : Rep W h v x) : Reps W h [v] [x] := .cons r .nil
theorem Reps.reverse {W : Wd} {h : Heap} : ∀ {vs : List V} {xs : List Value}, Reps W h vs xs → Reps W h vs.reverse xs.reverse
  | _, _, .nil => .nil
  | _, _, .cons r rs => by rw [List.reverse_cons, List.reverse_cons]; exact rs.reverse.append (.one r)

/-- an object of the abstract heap, as it lies -/
inductive CellR (W : Wd) (h : Heap) (a : Addr) : Cell → Prop
  | lst {vs : List V} {items : Array Value} {n : Nat} : items.size ≤ 1000001 → h.get? a = some { cls := .type "list", data := .seq items n } → Reps W h vs items.toList → CellR W h a (.lst vs)
  | dctT {es : List (List Int × V)} {ep : Nat} {des : Array PySem.DictEntry} {xs : List (List Int × Addr × Value)} : xs.length ≤ 1000001 → h.get? a = some { cls := .type "dict", data := .dict des ep } →
      des.toList = xs.map (PySem.entryOfKey (PySem.tupleKind (PySem.intKind W.prog W.w))) → (∀ x ∈ xs, (PySem.tupleKind (PySem.intKind W.prog W.w)).is h x.1 x.2.1) → (xs.map (·.1)).Nodup →
      es.map (·.1) = xs.map (·.1) → Reps W h (es.map (·.2)) (xs.map (·.2.2)) → (∀ x ∈ xs, Rep W h (kv x.1) (.ref x.2.1)) → CellR W h a (.dct es ep)
  | dctI {es : List (Int × V)} {ep : Nat} {des : Array PySem.DictEntry} {xs : List (Int × Value)} : xs.length ≤ 1000001 → h.get? a = some { cls := .type "dict", data := .dict des ep } →
      PySem.KeysOf (PySem.intKind W.prog W.w) des → PySem.Pairs (PySem.intKind W.prog W.w) des.toList xs → (xs.map (·.1)).Nodup →
      es.map (·.1) = xs.map (·.1) → Reps W h (es.map (·.2)) (xs.map (·.2)) → CellR W h a (.dci es ep)
  | inst {c : String} {C d : Addr} : W.cls c = some C → h.get? a = some { cls := .ref C, dict := some d, data := .plain } → CellR W h a (.inst c d)
  | attrs {m : String → Option V} {des : Array PySem.DictEntry} {ep : Nat} {m' : Str → Option Value} : h.get? a = some { cls := .type "dict", data := .dict des ep } → h.Ns a m' →
      (∀ n v, m n = some v → ∃ x, m' (Str.ofString n) = some x ∧ Rep W h v x) → (∀ n, m n = none → m' (Str.ofString n) = none) → CellR W h a (.attrs m)

theorem CellR.obj {W : Wd} {h : Heap} {a : Addr} {c : Cell} (x : CellR W h a c) : ∃ o, h.get? a = some o ∧ ¬ isTup o := by
  cases x with
  | lst _ e _ => exact ⟨_, e, notTup_cls (by simp)⟩
  | dctT _ e => exact ⟨_, e, notTup_cls (by simp)⟩
  | dctI _ e => exact ⟨_, e, notTup_cls (by simp)⟩
  | inst _ e => exact ⟨_, e, notTup_cls (by simp)⟩
  | attrs e => exact ⟨_, e, notTup_cls (by simp)⟩

theorem CellR.mono {W : Wd} {h h' : Heap} {a : Addr} {c : Cell} (x : CellR W h a c) (k : TupKeep h h')
    (ha : ∀ o, h.get? a = some o → h'.get? a = some o) : CellR W h' a c := by
  cases x with
  | lst z e r => exact .lst z (ha _ e) (r.mono k)
  | dctT z e d i n m r q => exact .dctT z (ha _ e) d (fun x hx => k.key _ _ (i x hx)) n m (r.mono k) fun x hx => (q x hx).mono k
  | dctI z e d i n m r => exact .dctI z (ha _ e) d i n m (r.mono k)
  | inst c e => exact .inst c (ha _ e)
  | attrs e q m n =>
    refine .attrs (ha _ e) ?_ (fun y v hy => ?_) n
    · obtain ⟨o, es, ep, ho, r⟩ := q; exact ⟨o, es, ep, ha _ ho, r⟩
    · obtain ⟨x, hx, hr⟩ := m y v hy; exact ⟨x, hx, hr.mono k⟩

/-- the state bears the abstract heap -/
structure HR (W : Wd) (σ : Hp) (s : Shared) : Prop where
  same : ∃ h tk, s = { W.s₀ with heap := h, toks := tk }
  base : ∀ b o, W.s₀.heap.get? b = some o → s.heap.get? b = some o ∧ σ b = none
  cell : ∀ a c, σ a = some c → CellR W s.heap a c

/-- from one state to a later one: what is no part of the abstract heap, nor the frame's own, stays -/
structure Step (W : Wd) (own : List Addr) (σ : Hp) (s : Shared) (σ' : Hp) (s' : Shared) : Prop where
  hr : HR W σ' s'
  keep : ∀ b o, s.heap.get? b = some o → σ b = none → b ∉ own → s'.heap.get? b = some o ∧ σ' b = none
  live : ∀ b o, s.heap.get? b = some o → ∃ o', s'.heap.get? b = some o' ∧ (¬ isTup o → ¬ isTup o')
  mine : ∀ b ∈ own, σ b = none → σ' b = none

theorem Step.refl {W : Wd} {own : List Addr} {σ : Hp} {s : Shared} (x : HR W σ s) : Step W own σ s σ s := ⟨x, fun _ _ e h _ => ⟨e, h⟩, fun _ o e => ⟨o, e, id⟩, fun _ _ h => h⟩
theorem Step.trans {W : Wd} {own : List Addr} {σ σ' σ'' : Hp} {s s' s'' : Shared} (x : Step W own σ s σ' s') (y : Step W own σ' s' σ'' s'') : Step W own σ s σ'' s'' where
  hr := y.hr
  keep b o e h n := let ⟨e', h'⟩ := x.keep b o e h n; y.keep b o e' h' n
  live b o e := let ⟨o', e', k⟩ := x.live b o e; let ⟨o'', e'', k'⟩ := y.live b o' e'; ⟨o'', e'', fun t => k' (k t)⟩
  mine b hb h := y.mine b hb (x.mine b hb h)
theorem Step.weak {W : Wd} {own : List Addr} {σ σ' : Hp} {s s' : Shared} (x : Step W [] σ s σ' s') (hs : ∀ b ∈ own, ∃ o, s.heap.get? b = some o) : Step W own σ s σ' s' where
  hr := x.hr
  keep b o e h _ := x.keep b o e h (by simp)
  live := x.live
  mine b hb h := let ⟨o, e⟩ := hs b hb; (x.keep b o e h (by simp)).2

theorem HR.notTup {W : Wd} {σ : Hp} {s : Shared} (x : HR W σ s) {a : Addr} {o : Obj} (e : s.heap.get? a = some o) (k : isTup o) : σ a = none := by
  cases hc : σ a with
  | none => rfl
  | some c =>
    obtain ⟨o', ho, hn⟩ := (x.cell a c hc).obj
    rw [e] at ho; cases ho; exact absurd k hn
theorem HR.fresh {W : Wd} {σ : Hp} {s : Shared} (x : HR W σ s) {a : Addr} (e : s.heap.get? a = none) : σ a = none := by
  cases hc : σ a with
  | none => rfl
  | some c => obtain ⟨o', ho, _⟩ := (x.cell a c hc).obj; rw [e] at ho; cases ho
theorem HR.fresh' {W : Wd} {σ : Hp} {s : Shared} (x : HR W σ s) : σ s.heap.objs.size = none := x.fresh (by
  cases e : s.heap.get? s.heap.objs.size with
  | none => rfl
  | some o => exact absurd (PySem.Heap.lt_size e) (Nat.lt_irrefl _))
theorem HR.at {W : Wd} {σ : Hp} {s : Shared} (x : HR W σ s) (h : Heap) (tk : Nat) : ∃ h' tk', { s with heap := h, toks := tk } = ({ W.s₀ with heap := h', toks := tk' } : Shared) := by
  obtain ⟨h₁, tk₁, e⟩ := x.same; exact ⟨h, tk, by rw [e]⟩

/-- the frame's own objects are there, and no tuples -/
noncomputable def Own (own : List Addr) (h : Heap) : Prop := ∀ b ∈ own, ∃ o, h.get? b = some o ∧ ¬ isTup o
theorem Own.nil (h : Heap) : Own [] h := fun _ hb => by cases hb

theorem Step.tups {W : Wd} {own : List Addr} {σ σ' : Hp} {s s' : Shared} (x : Step W own σ s σ' s') (r : HR W σ s) (ow : Own own s.heap) : TupKeep s.heap s'.heap := fun b o e k => by
  refine (x.keep b o e (r.notTup e k) fun hb => ?_).1
  obtain ⟨o', e', k'⟩ := ow b hb
  rw [e] at e'; cases e'; exact k' k
theorem Step.own {W : Wd} {own : List Addr} {σ σ' : Hp} {s s' : Shared} (x : Step W own σ s σ' s') {ow : List Addr} (o : Own ow s.heap) : Own ow s'.heap := fun b hb =>
  let ⟨_, e, k⟩ := o b hb; let ⟨o', e', k'⟩ := x.live b _ e; ⟨o', e', k' k⟩

/-- the heap has grown; the abstract one is as it was -/
theorem HR.grow {W : Wd} {σ : Hp} {s : Shared} (x : HR W σ s) {h' : Heap} (k : ∀ b o, s.heap.get? b = some o → h'.get? b = some o) (tk : Nat) (own : List Addr) : Step W own σ s σ { s with heap := h', toks := tk } where
  hr := ⟨x.at h' tk, fun b o e => ⟨k b o (x.base b o e).1, (x.base b o e).2⟩, fun a c hc => (x.cell a c hc).mono (fun b o e _ => k b o e) fun o e => k a o e⟩
  keep b o e hσ _ := ⟨k b o e, hσ⟩
  live b o e := ⟨o, k b o e, id⟩
  mine _ _ h := h
theorem HR.tok {W : Wd} {σ : Hp} {s : Shared} (x : HR W σ s) (tk : Nat) (own : List Addr) : Step W own σ s σ { s with toks := tk } := x.grow (h' := s.heap) (fun _ _ e => e) tk own

/-- a new object of the abstract heap -/
theorem HR.new {W : Wd} {σ : Hp} {s : Shared} (x : HR W σ s) {h' : Heap} {a : Addr} {c : Cell} (ha : s.heap.get? a = none) (k : ∀ b o, s.heap.get? b = some o → h'.get? b = some o) (hc : CellR W h' a c) (tk : Nat) :
    Step W [] σ s (σ.set a c) { s with heap := h', toks := tk } := by
  have hne : ∀ b o, s.heap.get? b = some o → b ≠ a := fun b o e q => by subst q; rw [ha] at e; cases e
  refine ⟨⟨x.at h' tk, fun b o e => ?_, fun b d hd => ?_⟩, fun b o e hσ _ => ⟨k b o e, ?_⟩, fun b o e => ⟨o, k b o e, id⟩, fun b hb => by cases hb⟩
  · exact ⟨k b o (x.base b o e).1, by rw [Hp.set_ne _ _ (hne b o (x.base b o e).1)]; exact (x.base b o e).2⟩
  · by_cases hb : b = a
    · subst hb; rw [Hp.set_same] at hd; cases hd; exact hc
    · rw [Hp.set_ne _ _ hb] at hd
      exact (x.cell b d hd).mono (fun b o e _ => k b o e) fun o e => k b o e
  · rw [Hp.set_ne _ _ (hne b o e)]; exact hσ

/-- an object of the abstract heap is changed -/
theorem HR.upd {W : Wd} {σ : Hp} {s : Shared} (x : HR W σ s) {h' : Heap} {a : Addr} {c c' : Cell} (ha : σ a = some c) (k : PySem.Heap.ExtBut a s.heap h') (hc : CellR W h' a c') (tk : Nat) (own : List Addr) :
    Step W own σ s (σ.set a c') { s with heap := h', toks := tk } := by
  obtain ⟨oa, ea, na⟩ := (x.cell a c ha).obj
  obtain ⟨oa', ea', na'⟩ := hc.obj
  have kt : TupKeep s.heap h' := fun b o e q => k b o (fun hb => by subst hb; rw [ea] at e; cases e; exact na q) e
  refine ⟨⟨x.at h' tk, fun b o e => ?_, fun b d hd => ?_⟩, fun b o e hσ _ => ?_, fun b o e => ?_, fun b _ h => ?_⟩
  · have hb : b ≠ a := fun q => by subst q; rw [(x.base b o e).2] at ha; cases ha
    exact ⟨k b o hb (x.base b o e).1, by rw [Hp.set_ne _ _ hb]; exact (x.base b o e).2⟩
  · by_cases hb : b = a
    · subst hb; rw [Hp.set_same] at hd; cases hd; exact hc
    · rw [Hp.set_ne _ _ hb] at hd
      exact (x.cell b d hd).mono kt fun o e => k b o hb e
  · have hb : b ≠ a := fun q => by subst q; rw [hσ] at ha; cases ha
    exact ⟨k b o hb e, by rw [Hp.set_ne _ _ hb]; exact hσ⟩
  · by_cases hb : b = a
    · subst hb; exact ⟨oa', ea', fun _ => na'⟩
    · exact ⟨o, k b o hb e, id⟩
  · by_cases hb : b = a
    · subst hb; rw [h] at ha; cases ha
    · rw [Hp.set_ne _ _ hb]; exact h

/-- an object of the frame's own is changed -/
theorem HR.mine {W : Wd} {σ : Hp} {s : Shared} (x : HR W σ s) {h' : Heap} {a : Addr} {own : List Addr} {o' : Obj} (ha : a ∈ own) (ow : Own own s.heap) (hσ : σ a = none) (hb : W.s₀.heap.get? a = none) (k : PySem.Heap.ExtBut a s.heap h') (ho : h'.get? a = some o') (hn : ¬ isTup o') (tk : Nat) :
    Step W own σ s σ { s with heap := h', toks := tk } := by
  have kt : TupKeep s.heap h' := fun b o e q => k b o (fun hb => by
    subst hb; obtain ⟨o'', e'', n''⟩ := ow b ha; rw [e] at e''; cases e''; exact n'' q) e
  have kc : ∀ b d, σ b = some d → b ≠ a := fun b d e q => by subst q; rw [hσ] at e; cases e
  refine ⟨⟨x.at h' tk, fun b o e => ?_, fun b d hd => (x.cell b d hd).mono kt fun o e => k b o (kc b d hd) e⟩, fun b o e hσ' hb' => ⟨k b o (fun q => hb' (q ▸ ha)) e, hσ'⟩, fun b o e => ?_, fun _ _ h => h⟩
  · have hba : b ≠ a := fun q => by subst q; rw [e] at hb; cases hb
    exact ⟨k b o hba (x.base b o e).1, (x.base b o e).2⟩
  · by_cases q : b = a
    · subst q; exact ⟨o', ho, fun _ => hn⟩
    · exact ⟨o, k b o q e, id⟩
end RS

namespace RS
open PySem (Program World Shared Addr Value Obj Heap Str Around wpAny codeAny model Scope NameKind Expr Stmt FuncData cLine recursionLimit sizeLine mainGlobals builtinsNs)

noncomputable def EPost (W : Wd) (σ : Hp) (s : Shared) (Q : VP) : Value → Shared → Prop := fun x s' => ∃ v σ', Q v σ' ∧ Rep W s'.heap v x ∧ Step W [] σ s σ' s'

noncomputable def opOf : Bop → PySem.Operator
  | .add => .Add | .sub => .Sub | .mul => .Mult | .fdiv => .FloorDiv | .mod => .Mod | .pow => .Pow

theorem small_bits {a : Int} (h : small a) : ¬ PySem.Builtin.Int.intBits a > PySem.shortFactorBits := by
  unfold small at h
  unfold PySem.Builtin.Int.intBits PySem.shortFactorBits
  split
  · omega
  · have h1 : a.natAbs ≠ 0 := by simp_all
    have : a.natAbs.log2 < 64 := (Nat.log2_lt h1).mpr (by omega)
    omega
theorem small_pylong {a b : Int} (h : small b) : PySem.Builtin.divisionGoesByPylong a b = false := by
  unfold PySem.Builtin.divisionGoesByPylong
  dsimp only
  rw [Bool.and_eq_false_iff]
  left
  rw [decide_eq_false_iff_not]
  split
  · omega
  · have h1 : b.natAbs ≠ 0 := by simp_all
    unfold small at h
    have : b.natAbs.log2 < 64 := (Nat.log2_lt h1).mpr (by omega)
    omega
theorem sizeLine_is : sizeLine = 16777216 := rfl

section
variable {W : Wd} {A : Around} {E : Value → Shared → Prop} {s : Shared} {σ : Hp} {Q : VP}

theorem newList_s {vs : List V} {xs : List Value} (r : HR W σ s) (hl : xs.length ≤ 1000001) (hr : Reps W s.heap vs xs) (h : newP σ (.lst vs) Q) (tk : Nat) :
    EPost W σ s Q (.ref s.heap.objs.size) { s with heap := s.heap.push { cls := .type "list", data := .seq xs.toArray }, toks := tk } := by
  have hk : ∀ b o, s.heap.get? b = some o → (s.heap.push { cls := .type "list", data := .seq xs.toArray }).get? b = some o := fun b o e => PySem.Heap.get?_push_of_some _ e
  refine ⟨_, _, h s.heap.objs.size r.fresh', .ref _, r.new ?_ hk (.lst (by simpa using hl) (PySem.Heap.get?_push_size _ rfl) ?_) tk⟩
  · cases e : s.heap.get? s.heap.objs.size with
    | none => rfl
    | some o => exact absurd (PySem.Heap.lt_size e) (Nat.lt_irrefl _)
  · simpa using hr.mono fun b o e _ => hk b o e

theorem newTuple_s {vs : List V} {xs : List Value} (r : HR W σ s) (hl : xs.length ≤ 1000001) (hr : Reps W s.heap vs xs) (h : Q (.tup vs) σ) (tk : Nat) :
    EPost W σ s Q (.ref s.heap.objs.size) { s with heap := s.heap.push { cls := .type "tuple", data := .seq xs.toArray }, toks := tk } := by
  have hk : ∀ b o, s.heap.get? b = some o → (s.heap.push { cls := .type "tuple", data := .seq xs.toArray }).get? b = some o := fun b o e => PySem.Heap.get?_push_of_some _ e
  refine ⟨_, _, h, .tup (by simpa using hl) (PySem.Heap.get?_push_size _ rfl) ?_, r.grow hk tk []⟩
  simpa using hr.mono fun b o e _ => hk b o e

theorem HR.lst {a : Nat} {vs : List V} (r : HR W σ s) (h : σ a = some (.lst vs)) : ∃ items n, items.size ≤ 1000001 ∧ s.heap.get? a = some { cls := .type "list", data := .seq items n } ∧ Reps W s.heap vs items.toList := by
  cases r.cell a _ h with
  | lst z e q => exact ⟨_, _, z, e, q⟩

theorem bin_sound {op : Bop} {v w : V} {x y : Value} (r : HR W σ s) (hx : Rep W s.heap v x) (hy : Rep W s.heap w y) (h : binP op v w σ Q) :
    wpAny (model W.prog W.w) A (PySem.binaryOp (opOf op) x y) (EPost W σ s Q) E s := by
  cases hx with
  | int a t =>
    cases hy with
    | int b u =>
      cases op with
      | add => exact PyProof.Rows.add_int ⟨_, _, h, .int _ _, r.tok _ _⟩
      | sub => exact PyProof.Rows.sub_int ⟨_, _, h, .int _ _, r.tok _ _⟩
      | mul =>
        obtain ⟨hs, h⟩ := h
        refine PyProof.Rows.mul_int ⟨_, _, h, .int _ _, r.tok _ _⟩ ?_
        unfold PySem.IntMulOk
        rcases hs with hs | hs <;> have := small_bits hs <;> simp only [Bool.and_eq_true, decide_eq_true_eq] <;> omega
      | fdiv =>
        obtain ⟨⟨h0, hs⟩, h⟩ := h
        refine PyProof.Rows.floordiv_int (by omega) ?_ (.inl (small_pylong hs))
        rw [Int.fdiv_eq_ediv_of_nonneg a (by omega)]
        exact ⟨_, _, h, .int _ _, r.tok _ _⟩
      | mod =>
        obtain ⟨h0, h⟩ := h
        refine PyProof.Rows.mod_int' (by omega) ?_
        rw [Int.fmod_eq_emod_of_nonneg a (by omega)]
        exact ⟨_, _, h, .int _ _, r.tok _ _⟩
      | pow =>
        obtain ⟨⟨hs, h0, h1⟩, h⟩ := h
        exact PyProof.Rows.pow_int_small h0 (by omega) (by unfold small at hs; omega) ⟨_, _, h, .int _ _, r.tok _ _⟩
    | _ => cases op <;> exact h.elim
  | tup zx ex qx =>
    cases hy with
    | tup zy ey qy =>
      cases op with
      | add =>
        obtain ⟨hl, h⟩ := h
        rename_i vs a items n ws b items2 n2
        obtain ⟨n1, n2', hl⟩ := hl
        have hl1 := qx.length; have hl2 := qy.length
        simp only [Array.length_toList] at hl1 hl2
        have h1 : ¬ items.isEmpty = true := by
          intro q; simp only [Array.isEmpty_iff_size_eq_zero] at q; exact n1 (List.eq_nil_of_length_eq_zero (by omega))
        have h2 : ¬ items2.isEmpty = true := by
          intro q; simp only [Array.isEmpty_iff_size_eq_zero] at q; exact n2' (List.eq_nil_of_length_eq_zero (by omega))
        have e : items ++ items2 = (items.toList ++ items2.toList).toArray := by simp
        refine PySem.P.add_tuple ex ey h1 h2 ?_ (by rw [sizeLine_is]; unfold lenOk at hl; omega)
        rw [e]
        exact newTuple_s r (by simp only [List.length_append, Array.length_toList]; unfold lenOk at hl; omega) (qx.append qy) h s.toks
      | _ => exact h.elim
    | _ => cases op <;> exact h.elim
  | ref a =>
    cases hy with
    | ref b =>
      cases op with
      | add =>
        obtain ⟨xs, ys, ⟨ha, hb, hl⟩, h⟩ := h
        obtain ⟨items, n, z, e, q⟩ := r.lst ha
        obtain ⟨items2, n2, z2, e2, q2⟩ := r.lst hb
        have hl1 := q.length; have hl2 := q2.length
        simp only [Array.length_toList] at hl1 hl2
        refine PySem.P.add_list e e2 ?_ (by rw [sizeLine_is]; unfold lenOk at hl; omega)
        have e : items ++ items2 = (items.toList ++ items2.toList).toArray := by simp
        rw [e]
        exact newList_s r (by simp only [List.length_append, Array.length_toList]; unfold lenOk at hl; omega) (q.append q2) h s.toks
      | _ => exact h.elim
    | _ => cases op <;> exact h.elim
  | _ => cases op <;> exact h.elim
end
end RS

namespace RS
open PySem (Program World Shared Addr Value Obj Heap Str Around wpAny codeAny model Scope NameKind Expr Stmt FuncData cLine recursionLimit sizeLine mainGlobals builtinsNs PyData)

/-- room for k more calls -/
structure Room (A : Around) (k : Nat) : Prop where
  hand : A.handled = none
  units : A.units + 10 * k + 200 < cLine
  depth : A.depth + k < recursionLimit

theorem optAll_length {α β : Type} {f : α → Option β} : ∀ {l : List α} {r : List β}, optAll f l = some r → l.length = r.length
  | [], r, h => by simp only [optAll, Option.some.injEq] at h; subst h; rfl
  | a :: l, r, h => by
    simp only [optAll] at h
    split at h
    · cases h; rename_i hs; simp [optAll_length hs]
    · cases h

theorem Str.ofString_ok (t : String) : PyData.strOk (Str.ofString t) = true := by
  unfold PyData.strOk Str.ofString
  rw [PySem.cpsOfBytes_string]
  rw [Array.all_eq_true']
  intro x hx
  simp only [List.mem_toArray, List.mem_map] at hx
  obtain ⟨c, _, rfl⟩ := hx
  have h := c.valid
  simp only [UInt32.isValidChar, Nat.isValidChar] at h
  have : c.toNat = c.val.toNat := rfl
  simp only [decide_eq_true_eq]
  omega
theorem Str.ofString_inj {a b : String} (h : Str.ofString a = Str.ofString b) : a = b := by
  unfold Str.ofString at h
  rw [PySem.cpsOfBytes_string, PySem.cpsOfBytes_string] at h
  simp only [PySem.Str.mk.injEq] at h
  have h' : a.toList.map Char.toNat = b.toList.map Char.toNat := by simpa using congrArg Array.toList h
  have : a.toList = b.toList := by
    refine List.map_inj_right (f := Char.toNat) (fun x y e => ?_) |>.mp h'
    exact Char.ext (UInt32.toNat_inj.mp e)
  exact String.toList_inj.mp this
theorem Str.ofString_beq (a b : String) : (Str.ofString a == Str.ofString b) = decide (a = b) := by
  by_cases h : a = b
  · subst h; simp
  · simp only [h, decide_false, beq_eq_false_iff_ne, ne_eq]; exact fun e => h (Str.ofString_inj e)

section
variable {W : Wd} {A : Around} {E : Value → Shared → Prop} {s : Shared} {σ : Hp} {Q : VP}

theorem snaps_reads (n : Nat) (IH : ∀ (v : V) (d : PyData) (x : Value), snap σ n v = some d → Rep W s.heap v x → ∃ as, PySem.Reads s.heap x d as ∧ d.canLay0 = true ∧ d.depth ≤ n) :
    ∀ (vs : List V) (ds : List PyData) (xs : List Value), optAll (snap σ n) vs = some ds → Reps W s.heap vs xs → ∃ as, PySem.ReadsAll s.heap xs ds as ∧ PyData.canLayAll0 ds = true ∧ PyData.depthAll ds ≤ n
  | [], ds, xs, h, q => by
    simp only [optAll, Option.some.injEq] at h; subst h; cases q
    exact ⟨_, .nil, rfl, by simp [PyData.depthAll]⟩
  | v :: vs, ds, xs, h, q => by
    simp only [optAll] at h
    split at h
    · rename_i d ds' hd hds
      cases h
      cases q with
      | cons q qs =>
        obtain ⟨as, r, c, l⟩ := IH _ _ _ hd q
        obtain ⟨bs, rs, cs, ls⟩ := snaps_reads n IH _ _ _ hds qs
        exact ⟨_, .cons r rs, by simp [PyData.canLayAll0, c, cs], by simp only [PyData.depthAll]; omega⟩
    · cases h

theorem snap_reads (r : HR W σ s) : ∀ (n : Nat) (v : V) (d : PyData) (x : Value), snap σ n v = some d → Rep W s.heap v x → ∃ as, PySem.Reads s.heap x d as ∧ d.canLay0 = true ∧ d.depth ≤ n := by
  intro n
  induction n with
  | zero =>
    intro v d x h q
    cases q <;> simp only [snap, Option.some.injEq, reduceCtorEq] at h <;> subst h
    · exact ⟨_, .none, rfl, by simp [PyData.depth]⟩
    · exact ⟨_, .bool _, rfl, by simp [PyData.depth]⟩
    · exact ⟨_, .int _ _, rfl, by simp [PyData.depth]⟩
    · exact ⟨_, .str _ _, Str.ofString_ok _, by simp [PyData.depth]⟩
  | succ n ih =>
    intro v d x h q
    cases q with
    | none => simp only [snap, Option.some.injEq] at h; subst h; exact ⟨_, .none, rfl, by simp [PyData.depth]⟩
    | bool b => simp only [snap, Option.some.injEq] at h; subst h; exact ⟨_, .bool _, rfl, by simp [PyData.depth]⟩
    | int i t => simp only [snap, Option.some.injEq] at h; subst h; exact ⟨_, .int _ _, rfl, by simp [PyData.depth]⟩
    | str i t => simp only [snap, Option.some.injEq] at h; subst h; exact ⟨_, .str _ _, Str.ofString_ok _, by simp [PyData.depth]⟩
    | tup z e q =>
      simp only [snap, Option.map_eq_some_iff] at h
      obtain ⟨ds, hds, rfl⟩ := h
      obtain ⟨as, rs, c, l⟩ := snaps_reads n ih _ _ _ hds q
      exact ⟨_, .tuple e rfl rfl rs, by simp [PyData.canLay0, c], by simp only [PyData.depth]; omega⟩
    | ref a =>
      simp only [snap] at h
      split at h
      · rename_i vs ha
        simp only [Option.map_eq_some_iff] at h
        obtain ⟨ds, hds, rfl⟩ := h
        obtain ⟨items, m, z, e, q⟩ := r.lst ha
        obtain ⟨as, rs, c, l⟩ := snaps_reads n ih _ _ _ hds q
        exact ⟨_, .list e rfl rfl rs, by simp [PyData.canLay0, c], by simp only [PyData.depth]; omega⟩
      · cases h
    | _ => simp [snap] at h

noncomputable def cmpOf : Cop → PySem.CmpOp
  | .eq => .Eq | .ne => .NotEq | .lt => .Lt | .le => .LtE | .gt => .Gt | .ge => .GtE | .is => .Is | .isNot => .IsNot | .isIn => .In | .notIn => .NotIn

theorem eq_sound {v w : V} {x y : Value} {k : Nat} (hA : Room A k) (r : HR W σ s) (hx : Rep W s.heap v x) (hy : Rep W s.heap w y) {B : Bool → Prop} {P : Value → Shared → Prop} (h : eqP v w σ B) (hP : ∀ b, B b → P (.bool b) s) :
    wpAny (model W.prog W.w) A (PySem.compareOp .Eq x y) P E s := by
  have gen : (∃ d e, (snap σ 50 v = some d ∧ snap σ 50 w = some e) ∧ B (PyData.eqv d e)) → wpAny (model W.prog W.w) A (PySem.compareOp .Eq x y) P E s := by
    rintro ⟨d, e, ⟨hd, he⟩, hb⟩
    obtain ⟨as, ra, ca, la⟩ := snap_reads r 50 v d x hd hx
    obtain ⟨bs, rb, cb, lb⟩ := snap_reads r 50 w e y he hy
    exact PySem.SeqAt.compareEq_reads ra rb ca cb (by have := hA.units; omega) (hP _ hb)
  unfold eqP at h
  split at h
  · cases hx; cases hy
    refine PyProof.Rows.eq_int ?_
    exact hP _ h
  · cases hx; cases hy
    refine PyProof.Rows.eq_str ?_
    rw [Str.ofString_beq]; exact hP _ h
  · exact gen h

theorem ne_sound {v w : V} {x y : Value} {k : Nat} (hA : Room A k) (r : HR W σ s) (hx : Rep W s.heap v x) (hy : Rep W s.heap w y) {B : Bool → Prop} {P : Value → Shared → Prop} (h : eqP v w σ fun b => B (!b)) (hP : ∀ b, B b → P (.bool b) s) :
    wpAny (model W.prog W.w) A (PySem.compareOp .NotEq x y) P E s := by
  have gen : (∃ d e, (snap σ 50 v = some d ∧ snap σ 50 w = some e) ∧ B (!PyData.eqv d e)) → wpAny (model W.prog W.w) A (PySem.compareOp .NotEq x y) P E s := by
    rintro ⟨d, e, ⟨hd, he⟩, hb⟩
    obtain ⟨as, ra, ca, la⟩ := snap_reads r 50 v d x hd hx
    obtain ⟨bs, rb, cb, lb⟩ := snap_reads r 50 w e y he hy
    exact PySem.SeqAt.compareNe_reads ra rb ca cb (by have := hA.units; omega) (hP _ hb)
  unfold eqP at h
  split at h
  · cases hx; cases hy
    refine PyProof.Rows.ne_int ?_
    exact hP _ h
  · cases hx; cases hy
    refine PyProof.Rows.ne_str ?_
    simp only [bne, Str.ofString_beq]; exact hP _ h
  · exact gen h

theorem V.ints_rep {W : Wd} {h : Heap} : ∀ {vs : List V} {xs : List Value} {ks : List Int}, V.ints vs = some ks → Reps W h vs xs → PySem.ItemsAre (PySem.intKind W.prog W.w) ks xs
  | [], _, _, e, .nil => by simp only [V.ints, Option.some.injEq] at e; subst e; exact .nil
  | .int i :: vs, _, _, e, .cons (.int _ t) q => by
    simp only [V.ints, Option.map_eq_some_iff] at e
    obtain ⟨ks, e, rfl⟩ := e
    exact .cons (by simp [PySem.intKind, Value.isInt]) (V.ints_rep e q)
theorem V.ints_of {vs : List V} {ks : List Int} (h : V.ints vs = some ks) : vs = ks.map .int := by
  induction vs generalizing ks with
  | nil => simp only [V.ints, Option.some.injEq] at h; subst h; rfl
  | cons v vs ih =>
    cases v <;> simp only [V.ints, reduceCtorEq, Option.map_eq_some_iff] at h
    obtain ⟨ks', e, rfl⟩ := h
    rw [ih e]; rfl
theorem V.ints_map (ks : List Int) : V.ints (ks.map .int) = some ks := by
  induction ks with
  | nil => rfl
  | cons k ks ih => simp [V.ints, ih]
theorem V.key_of {v : V} {k : List Int} (h : v.key = some k) : v = kv k := by
  cases v <;> simp only [V.key, reduceCtorEq] at h
  rw [V.ints_of h]; rfl
/-- a key of numbers, as it lies -/
theorem key_tuple {v : V} {x : Value} {l : List Int} (hv : v.key = some l) (hx : Rep W s.heap v x) : ∃ a, x = .ref a ∧ (PySem.tupleKind (PySem.intKind W.prog W.w)).is s.heap l a := by
  cases hx <;> simp only [V.key, reduceCtorEq] at hv
  rename_i z e q
  exact ⟨_, rfl, _, _, _, e, rfl, rfl, V.ints_rep hv q⟩

theorem HR.dct {a : Nat} {es : List (List Int × V)} {ep : Nat} (r : HR W σ s) (h : σ a = some (.dct es ep)) : ∃ (des : Array PySem.DictEntry) (xs : List (List Int × Addr × Value)), xs.length ≤ 1000001 ∧ s.heap.get? a = some { cls := .type "dict", data := .dict des ep } ∧
      des.toList = xs.map (PySem.entryOfKey (PySem.tupleKind (PySem.intKind W.prog W.w))) ∧ (∀ x ∈ xs, (PySem.tupleKind (PySem.intKind W.prog W.w)).is s.heap x.1 x.2.1) ∧ (xs.map (·.1)).Nodup ∧
      es.map (·.1) = xs.map (·.1) ∧ Reps W s.heap (es.map (·.2)) (xs.map (·.2.2)) := by
  cases r.cell a _ h with
  | dctT z e d i n m q rk => exact ⟨_, _, z, e, d, i, n, m, q⟩
theorem HR.dctK {a : Nat} {es : List (List Int × V)} {ep : Nat} (r : HR W σ s) (h : σ a = some (.dct es ep)) : ∃ (des : Array PySem.DictEntry) (xs : List (List Int × Addr × Value)), xs.length ≤ 1000001 ∧ s.heap.get? a = some { cls := .type "dict", data := .dict des ep } ∧
      des.toList = xs.map (PySem.entryOfKey (PySem.tupleKind (PySem.intKind W.prog W.w))) ∧ (∀ x ∈ xs, (PySem.tupleKind (PySem.intKind W.prog W.w)).is s.heap x.1 x.2.1) ∧ (xs.map (·.1)).Nodup ∧
      es.map (·.1) = xs.map (·.1) ∧ Reps W s.heap (es.map (·.2)) (xs.map (·.2.2)) ∧ ∀ x ∈ xs, Rep W s.heap (kv x.1) (.ref x.2.1) := by
  cases r.cell a _ h with
  | dctT z e d i n m q rk => exact ⟨_, _, z, e, d, i, n, m, q, rk⟩

/-- what is found under a key -/
theorem dget_at {W : Wd} {h : Heap} : ∀ {es : List (List Int × V)} {xs : List (List Int × Addr × Value)} (_ : es.map (·.1) = xs.map (·.1)) (_ : Reps W h (es.map (·.2)) (xs.map (·.2.2))) (k : List Int),
    (dget es k = none ∧ PySem.atKey xs k = none) ∨ ∃ v p, dget es k = some v ∧ PySem.atKey xs k = some p ∧ Rep W h v p.2
  | [], [], _, _, k => .inl ⟨rfl, rfl⟩
  | [], _ :: _, e, _, _ => by simp at e
  | _ :: _, [], e, _, _ => by simp at e
  | (k₁, v) :: es, (k₂, p) :: xs, e, q, k => by
    simp only [List.map_cons, List.cons.injEq] at e
    obtain ⟨rfl, e⟩ := e
    simp only [List.map_cons] at q
    cases q with
    | cons q qs =>
      by_cases hk : k₁ = k
      · subst hk; exact .inr ⟨v, p, by simp [dget], by simp [PySem.atKey], q⟩
      · have := dget_at e qs k
        simpa [dget, PySem.atKey, List.find?_cons, hk] using this
theorem dget_isSome {W : Wd} {h : Heap} {es : List (List Int × V)} {xs : List (List Int × Addr × Value)} (e : es.map (·.1) = xs.map (·.1)) (q : Reps W h (es.map (·.2)) (xs.map (·.2.2))) (k : List Int) : (dget es k).isSome = (PySem.atKey xs k).isSome := by
  rcases dget_at e q k with ⟨h1, h2⟩ | ⟨v, p, h1, h2, _⟩ <;> rw [h1, h2] <;> rfl

theorem HR.notSys (r : HR W σ s) (hsys : W.s₀.heap.get? PySem.sysModules ≠ none) {a : Nat} {c : Cell} (h : σ a = some c) : (a == PySem.sysModules) = false := by
  rw [beq_eq_false_iff_ne]
  intro e
  subst e
  cases q : W.s₀.heap.get? PySem.sysModules with
  | none => exact hsys q
  | some o => rw [(r.base _ _ q).2] at h; cases h

theorem in_sound {v w : V} {x y : Value} {k : Nat} (hA : Room A k) (hsys : W.s₀.heap.get? PySem.sysModules ≠ none) (r : HR W σ s) (hx : Rep W s.heap v x) (hy : Rep W s.heap w y) {B : Bool → Prop} {P : Value → Shared → Prop} (h : inP v w σ B)
    (hP : ∀ b tk, B b → P (.bool b) { s with toks := tk }) : wpAny (model W.prog W.w) A (PySem.compareOp .In x y) P E s := by
  unfold inP at h
  split at h
  · rename_i a
    cases hy
    split at h
    · rename_i vs ha
      obtain ⟨d, ds, ⟨hd, hds⟩, hb⟩ := h
      obtain ⟨items, m, z, e, q⟩ := r.lst ha
      obtain ⟨as, rx, cx, lx⟩ := snap_reads r 40 v d x hd hx
      obtain ⟨bs, rs, cs, ls⟩ := snaps_reads 40 (snap_reads r 40) _ _ _ hds q
      exact PySem.SeqAt.in_list_reads (.list e rfl rfl rs) rx cs cx (by have := hA.units; omega) (hP _ s.toks hb)
    · rename_i es ep ha
      obtain ⟨k, hk, hb⟩ := h
      obtain ⟨des, xs, z, e, d, i, n, m, q⟩ := r.dct ha
      obtain ⟨b, rfl, kb⟩ := key_tuple hk hx
      refine PySem.wpAny_in_heap (PySem.tupleKind_room_in1 (by have := hA.units; omega)) kb (r.notSys hsys ha) ⟨_, _, _, e, ⟨rfl, rfl, rfl⟩, rfl, d, i, n⟩ ?_
      rw [← dget_isSome m q]
      exact hP _ _ hb
    · exact h.1.elim
    · exact h.elim
  · exact h.elim
end
end RS

namespace RS
open PySem (Program World Shared Addr Value Obj Heap Str Around wpAny codeAny model Scope NameKind Expr Stmt FuncData cLine recursionLimit sizeLine mainGlobals builtinsNs PyData)

/-- what is known of the fixed parts -/
structure WOk (W : Wd) : Prop where
  sys : W.s₀.heap.get? PySem.sysModules ≠ none
  script : ∃ items n, items.size ≤ 1000001 ∧ W.s₀.heap.get? W.sa = some { cls := .type "list", data := .seq items n } ∧ ∀ h, Reps W h (W.ns.map .int) items.toList

theorem pyGet_at {α : Type} {vs : List α} {k : Int} {v : α} (h : pyGet vs k = some v) : ∃ j, PySem.seqIndex? k vs.length = some j ∧ vs[j]? = some v ∧ -(vs.length : Int) ≤ k ∧ k < vs.length := by
  unfold pyGet at h
  unfold PySem.seqIndex?
  split at h
  · rename_i h0
    have hl := (List.getElem?_eq_some_iff.mp h).1
    refine ⟨k.toNat, ?_, h, by omega, by omega⟩
    have h1 : ¬ k < 0 := by omega
    have h2 : k < (vs.length : Int) := by omega
    simp [h1, h0, h2]
  · rename_i h0
    split at h
    · rename_i h1
      have hl := (List.getElem?_eq_some_iff.mp h).1
      refine ⟨(k + vs.length).toNat, ?_, h, by omega, by omega⟩
      have h2 : k < 0 := by omega
      have h3 : k + (vs.length : Int) < vs.length := by omega
      simp [h1, h2, h3]
    · cases h

section
variable {W : Wd} {A : Around} {E : Value → Shared → Prop} {s : Shared} {σ : Hp} {Q : VP}

theorem notIn_of {x y : Value} {M : PySem.Model} {P : Value → Shared → Prop} (h : wpAny M A (PySem.compareOp .In x y) (fun v s' => ∀ b, v = .bool b → P (.bool (!b)) s') E s) : wpAny M A (PySem.compareOp .NotIn x y) P E s := fun Γ p hΓ => by
  have := h Γ p hΓ
  simp only [PySem.compareOp, PySem.Sem.wp_bind', PySem.Sem.wp_pure'] at this ⊢
  exact PySem.Sem.wp_mono M Γ _ (fun b p' s' q => q b rfl) (fun _ _ _ q => q) _ _ this

theorem isNone_rep {v : V} {x : Value} {h : Heap} (hx : Rep W h v x) : (x == Value.none) = v.isNone := by cases hx <;> rfl

theorem cmp_sound {op : Cop} {v w : V} {x y : Value} {k : Nat} (hW : WOk W) (hA : Room A k) (r : HR W σ s) (hx : Rep W s.heap v x) (hy : Rep W s.heap w y) {B : Bool → Prop} {P : Value → Shared → Prop} (h : cmpP op v w σ B)
    (hP : ∀ b tk, B b → P (.bool b) { s with toks := tk }) : wpAny (model W.prog W.w) A (PySem.compareOp (cmpOf op) x y) P E s := by
  have hP' : ∀ b, B b → P (.bool b) s := fun b hb => hP b s.toks hb
  cases op with
  | eq => exact eq_sound hA r hx hy h hP'
  | ne => exact ne_sound hA r hx hy h hP'
  | lt => cases hx <;> (try exact h.elim) <;> cases hy <;> (try exact h.elim); exact PyProof.Rows.lt_int (hP' _ h)
  | le => cases hx <;> (try exact h.elim) <;> cases hy <;> (try exact h.elim); exact PyProof.Rows.le_int (hP' _ h)
  | gt => cases hx <;> (try exact h.elim) <;> cases hy <;> (try exact h.elim); exact PyProof.Rows.gt_int (hP' _ h)
  | ge => cases hx <;> (try exact h.elim) <;> cases hy <;> (try exact h.elim); exact PyProof.Rows.ge_int (hP' _ h)
  | is =>
    cases hy <;> (try (cases v <;> exact h.elim))
    refine PyProof.Rows.is_none_gen ?_
    rw [isNone_rep hx]
    cases v <;> exact hP' _ h
  | isNot =>
    cases hy <;> (try (cases v <;> exact h.elim))
    have e : PySem.compareOp .IsNot x .none = pure (.bool (!(x == .none))) := by
      show (do return Value.bool (!(← PySem.isSame x .none))) = _
      rw [PySem.isSame_none]; rfl
    show wpAny _ _ (PySem.compareOp .IsNot x .none) _ _ _
    rw [e, isNone_rep hx]
    refine PySem.wpAny_pure ?_
    cases v <;> exact hP' _ h
  | isIn => exact in_sound hA hW.sys r hx hy h hP
  | notIn =>
    refine notIn_of (in_sound (B := fun b => B (!b)) hA hW.sys r hx hy h fun b tk hb b' e => ?_)
    cases e; exact hP _ _ hb

theorem getList_sound {a : Addr} {items : Array Value} {n : Nat} {vs : List V} {k : Int} {v : V} {tk : Nat} (r : HR W σ s) (z : items.size ≤ 1000001) (e : s.heap.get? a = some { cls := .type "list", data := .seq items n }) (q : Reps W s.heap vs items.toList) (hv : pyGet vs k = some v) (hq : Q v σ) :
    wpAny (model W.prog W.w) A (PySem.getItem (.ref a) (.int k tk)) (EPost W σ s Q) E s := by
  have hl := q.length
  simp only [Array.length_toList] at hl
  have hL : s.heap.IsList a items := ⟨_, e, rfl, n, rfl⟩
  unfold pyGet at hv
  split at hv
  · rename_i h0
    have hb := (List.getElem?_eq_some_iff.mp hv).1
    obtain ⟨y, hy, ry⟩ := q.get hv
    exact PySem.wpAny_getItem_list hL h0 (by omega) (by simpa using hy) ⟨_, _, hq, ry, .refl r⟩
  · rename_i h0
    split at hv
    · rename_i h1
      obtain ⟨y, hy, ry⟩ := q.get hv
      rw [hl] at hy h1
      exact PySem.wpAny_getItem_list_neg hL (by omega) (by omega) (by omega) (by simpa using hy) ⟨_, _, hq, ry, .refl r⟩
    · cases hv

theorem idx_sound {g : Glb} {o i : V} {x y : Value} {k : Nat} {value slice : Expr} (hg : g.ns = W.ns) (hW : WOk W) (hA : Room A k) (r : HR W σ s) (hx : Rep W s.heap o x) (hy : Rep W s.heap i y) (h : idxP g o i σ Q)
    (hs : ∃ ops, PySem.subscripted slice false x y = PySem.operate ops (PySem.getItem x y)) : wpAny (model W.prog W.w) A (PyProof.Rows.subscriptTail value slice x y) (EPost W σ s Q) E s := by
  obtain ⟨ops, hs⟩ := hs
  unfold idxP at h
  split at h
  · obtain ⟨v, hv, hq⟩ := h
    cases hy
    cases hx with
    | tup z e q =>
      obtain ⟨j, hj, hjv, lo, hi⟩ := pyGet_at hv
      have hl := q.length
      simp only [Array.length_toList] at hl
      obtain ⟨y', hy', ry⟩ := q.get hjv
      rw [hl] at hj lo hi
      exact PyProof.Rows.tail_any ⟨_, e, rfl⟩ PySem.F.slot_tuple_getitem.lookup
        (PySem.P.getItem_tuple e (by omega) (by omega) hj (by simpa using hy') ⟨_, _, hq, ry, .refl r⟩) hs
  · obtain ⟨v, hv, hq⟩ := h
    cases hy
    cases hx
    obtain ⟨items, n, z, e, q⟩ := hW.script
    have e' := (r.base _ _ e).1
    rw [hg] at hv
    refine PyProof.Rows.tail_any ⟨_, e', rfl⟩ PySem.slot_list_getitem.lookup (getList_sound r z e' (q _) (v := .int v) ?_ hq) hs
    unfold pyGet at hv ⊢
    simp only [List.length_map, List.getElem?_map]
    split at hv
    · rename_i h0; simp only [h0, if_true, hv]; rfl
    · rename_i h0
      split at hv
      · rename_i h1; simp only [h0, h1, if_true, if_false, hv]; rfl
      · cases hv
  · rename_i a i'
    cases hx
    split at h
    · rename_i vs ha
      split at h
      · obtain ⟨v, hv, hq⟩ := h
        cases hy
        obtain ⟨items, n, z, e, q⟩ := r.lst ha
        exact PyProof.Rows.tail_any ⟨_, e, rfl⟩ PySem.slot_list_getitem.lookup (getList_sound r z e q hv hq) hs
      · exact h.elim
    · rename_i es ep ha
      obtain ⟨k, v, ⟨hk, hv⟩, hq⟩ := h
      obtain ⟨des, xs, z, e, d, i, n, m, q⟩ := r.dct ha
      obtain ⟨b, rfl, kb⟩ := key_tuple hk hy
      rcases dget_at m q k with ⟨h1, _⟩ | ⟨v', p, h1, h2, rv⟩
      · rw [h1] at hv; cases hv
      · rw [h1] at hv; cases hv
        exact PyProof.Rows.tail_any ⟨_, e, rfl⟩ PySem.slot_dict_getitem.lookup
          (PySem.wpAny_getItem_heap (PySem.tupleKind_room_in1 (by have := hA.units; omega)) kb ⟨_, _, _, e, ⟨rfl, rfl, rfl⟩, rfl, d, i, n⟩ h2 ⟨_, _, hq, rv, r.tok _ _⟩) hs
    · exact h.1.elim
    · exact h.elim
  · exact h.elim
end
end RS

namespace RS
open PySem (Program World Shared Addr Value Obj Heap Str Around wpAny codeAny model Scope NameKind Expr Stmt FuncData cLine recursionLimit sizeLine mainGlobals builtinsNs PyData)

theorem bounds_is (lo hi : Option Int) (n : Nat) : PySem.sliceBounds lo hi none n = (((clipLo n lo : Nat) : Int), ((clipHi n hi : Nat) : Int), 1) := by
  have hl : ∀ k : Int, max 0 (min (if k < 0 then k + n else k) (n : Int)) = ((clip n k : Nat) : Int) := by
    intro k; unfold clip; split <;> split <;> omega
  unfold PySem.sliceBounds
  cases lo <;> cases hi <;> simp [clipLo, clipHi, hl]

theorem slicePick_is (items : Array Value) (lo hi : Option Int) : (PySem.slicePick items lo hi none).toList = pySlice items.toList lo hi := by
  unfold PySem.slicePick pySlice
  rw [bounds_is]
  simp only [PySem.sliceRange_one, PySem.pick_run, List.drop_take, Array.length_toList]

theorem pySlice_length {α : Type} (vs : List α) (l u : Option Int) : (pySlice vs l u).length ≤ vs.length := by
  unfold pySlice; simp only [List.length_drop, List.length_take]; omega
theorem Reps.pySlice {W : Wd} {h : Heap} {vs : List V} {xs : List Value} (q : Reps W h vs xs) (l u : Option Int) : Reps W h (pySlice vs l u) (RS.pySlice xs l u) := by
  unfold RS.pySlice
  rw [q.length]
  exact (q.take _).drop _

theorem adjust_is (lo hi : Option Int) (n : Nat) : PySem.Builtin.Slice.sliceAdjust lo hi 1 (n : Int) = (((clipLo n lo : Nat) : Int), ((clipHi n hi : Nat) : Int)) := by
  have hl : ∀ k : Int, (if k < 0 then max (k + n) 0 else min k (n : Int)) = ((clip n k : Nat) : Int) := by
    intro k; unfold clip; split <;> split <;> omega
  unfold PySem.Builtin.Slice.sliceAdjust
  have h1 : ¬ ((1 : Int) < 0) := by omega
  cases lo <;> cases hi <;> simp [clipLo, clipHi, hl, h1]
theorem places_is (a b : Nat) : PySem.Builtin.Slice.slicePlaces (a : Int) (b : Int) 1 = b - a := by
  unfold PySem.Builtin.Slice.slicePlaces
  have h1 : (1 : Int) > 0 := by omega
  simp only [h1, if_true, Int.ediv_one]
  split <;> omega

section
variable {W : Wd} {A : Around} {E : Value → Shared → Prop} {s : Shared} {σ : Hp} {Q : VP} {prog : Program} {w : World}

theorem sliceApplied_is {sl : Addr} {n : Nat} {vl vu : Value} {lo hi : Option Int} {Q : Int × Int × Nat → Shared → Prop} (hs : s.heap.IsSliceOf sl vl vu .none) (pl : PySem.IsPart vl lo) (pu : PySem.IsPart vu hi)
    (h : Q (((clipLo n lo : Nat) : Int), 1, clipHi n hi - clipLo n lo) s) :
    wpAny (model prog w) A (PySem.Builtin.Slice.sliceApplied (.ref sl) (pure (n : Int))) Q E s := by
  obtain ⟨os, hos, hcs, hds⟩ := id hs
  unfold PySem.Builtin.Slice.sliceApplied PySem.Builtin.Slice.sliceFields
  refine PySem.wpAny_bind (PySem.wpAny_bind (PySem.wpAny_field hos hds (x := vl) rfl (PySem.wpAny_bind (PySem.wpAny_field hos hds (x := vu) rfl (PySem.wpAny_bind (PySem.wpAny_field hos hds (x := .none) rfl (PySem.wpAny_pure ?_)))))))
  refine PySem.wpAny_bind (PyProof.Rows.slicePart_none ?_)
  show wpAny _ _ (if ((1 : Int) == 0) = true then _ else _) _ _ s
  rw [if_neg (by decide)]
  have part : ∀ {v : Value} {k : Option Int} {P : Option Int → Shared → Prop}, PySem.IsPart v k → P k s → wpAny (model prog w) A (PySem.Builtin.Slice.slicePartIndex v) P E s := by
    intro v k P hp q
    cases hp with
    | none => exact PyProof.Rows.slicePart_none q
    | int i t => exact PyProof.Rows.slicePart_int q
  refine PySem.wpAny_bind (part pl (PySem.wpAny_bind (part pu (PySem.wpAny_bind (PySem.wpAny_pure ?_)))))
  show wpAny _ _ (match PySem.Builtin.Slice.sliceAdjust lo hi 1 (n : Int) with | (lo, hi) => pure (lo, (1 : Int), PySem.Builtin.Slice.slicePlaces lo hi 1)) _ _ s
  rw [adjust_is]
  dsimp only
  rw [places_is]
  exact PySem.wpAny_pure h

theorem pick_is (xs : Array Value) (a k : Nat) : ((List.range k).filterMap fun (j : Nat) => xs[((a : Int) + (j : Int) * 1).toNat]?).toArray = ((xs.toList.drop a).take k).toArray := by
  have e : (fun (j : Nat) => xs[((a : Int) + (j : Int) * 1).toNat]?) = fun j => xs[a + j]? := by
    funext j
    have : ((a : Int) + (j : Int) * 1).toNat = a + j := by omega
    rw [this]
  rw [e]
  have := PySem.pick_run xs a k
  rw [List.filterMap_map] at this
  have e2 : ((fun x => xs[x]?) ∘ fun x => a + x) = fun j => xs[a + j]? := rfl
  rw [e2] at this
  rw [this]

/-- a slice of a tuple: a new one, or the tuple itself -/
theorem getTuple_slice {t sl : Addr} {items : Array Value} {n : Nat} {vl vu : Value} {lo hi : Option Int} {Q : Value → Shared → Prop} (e : s.heap.get? t = some { cls := .type "tuple", data := .seq items n }) (hs : s.heap.IsSliceOf sl vl vu .none) (pl : PySem.IsPart vl lo) (pu : PySem.IsPart vu hi) (hz : items.size ≤ 1000001)
    (h1 : pySlice items.toList lo hi = items.toList → Q (.ref t) s)
    (h2 : Q (.ref s.heap.objs.size) { s with heap := s.heap.push { cls := .type "tuple", data := .seq (pySlice items.toList lo hi).toArray } }) : wpAny (model prog w) A (PySem.getItem (.ref t) (.ref sl)) Q E s := by
  have hT : s.TypeIs (.ref t) "tuple" := ⟨_, e, rfl⟩
  obtain ⟨os, hos, hcs, hds⟩ := id hs
  have hTs : s.TypeIs (.ref sl) "slice" := ⟨os, hos, hcs⟩
  have hsz : PySem.sizeOk (.seq (pySlice items.toList lo hi).toArray) := by
    show (pySlice items.toList lo hi).toArray.size ≤ sizeLine
    have := pySlice_length items.toList lo hi
    simp only [Array.length_toList] at this
    rw [List.size_toArray, sizeLine_is]
    omega
  have ep : pySlice items.toList lo hi = (items.toList.drop (clipLo items.size lo)).take (clipHi items.size hi - clipLo items.size lo) := by
    unfold pySlice; simp only [List.drop_take, Array.length_toList]
  unfold PySem.getItem
  refine PySem.wpAny_holding ?_
  refine PySem.wpAny_bind (PySem.wpAny_sequenceKey hT (by decide) ?_)
  refine PySem.wpAny_bind (PySem.wpAny_callSpecial?_slot (name := Str.ofString "__getitem__") hT PySem.F.slot_tuple_getitem
    (PySem.wpAny_call_entry PySem.F.slot_tuple_getitem hT PySem.F.entry_tuple_getitem ?_ (PySem.F.args_tuple_getitem_2 _ _)))
  show wpAny _ _ (PySem.Builtin.Tuple.tupleItemsOf (.ref t) >>= _) _ _ s
  refine PySem.wpAny_bind (PySem.wpAny_tupleItemsOf e rfl ?_)
  refine PySem.wpAny_bind (PySem.wpAny_typeOf hTs ?_)
  rw [if_pos (by decide)]
  refine PySem.wpAny_bind (sliceApplied_is hs pl pu ?_)
  dsimp only
  split
  · rename_i hw
    have hwhole : pySlice items.toList lo hi = items.toList := by
      simp only [Bool.and_eq_true, beq_iff_eq, Int.natCast_eq_zero] at hw
      rw [ep, hw.1.1]
      rw [hw.1.1] at hw
      rw [hw.2, List.drop_zero]
      exact List.take_of_length_le (by simp)
    refine PySem.wpAny_bind (PySem.wpAny_bind (PySem.wpAny_typeOf hT (PySem.wpAny_pure ?_)))
    rw [if_pos (by decide)]
    exact PySem.wpAny_bind (PySem.wpAny_rule (PySem.wpAny_pure ⟨_, rfl, PySem.wpAny_pure (h1 hwhole)⟩))
  · rw [pick_is, ← ep]
    exact PySem.wpAny_bind (m := PySem.Builtin.Tuple.tupleExact _) (PySem.wpAny_newObj_type (PySem.wpAny_pure ⟨_, rfl, PySem.wpAny_pure h2⟩) hsz)

noncomputable def RepO (W : Wd) (h : Heap) : Option V → Value → Prop
  | none, x => x = .none
  | some v, x => Rep W h v x
theorem optInt_part {o : Option V} {k : Option Int} {x : Value} (h : optInt o = some k) (hx : RepO W s.heap o x) : PySem.IsPart x k := by
  cases o with
  | none => simp only [optInt, Option.some.injEq] at h; subst h; simp only [RepO] at hx; subst hx; exact .none
  | some v =>
    simp only [RepO] at hx
    cases hx <;> simp only [optInt, reduceCtorEq, Option.some.injEq] at h
    subst h; exact .int _ _

/-- behind the slice object: the state s₁ has it pushed -/
theorem slice_sound {g : Glb} {o : V} {l u : Option V} {x xl xu : Value} {value slice : Expr} (hg : g.ns = W.ns) (hW : WOk W) (r : HR W σ s) (hx : Rep W s.heap o x)
    (hl : RepO W s.heap l xl) (hu : RepO W s.heap u xu) (h : sliceP g o l u σ Q)
    (hs : ∀ y, ∃ ops, PySem.subscripted slice false x y = PySem.operate ops (PySem.getItem x y)) :
    wpAny (model W.prog W.w) A (PyProof.Rows.subscriptTail value slice x (.ref s.heap.objs.size)) (EPost W σ s Q) E { s with heap := s.heap.push { cls := .type "slice", data := .fields #[xl, xu, .none] } } := by
  obtain ⟨l', u', ⟨hl', hu'⟩, h⟩ := h
  have pl := optInt_part hl' hl
  have pu := optInt_part hu' hu
  obtain ⟨ops, hs⟩ := hs (.ref s.heap.objs.size)
  have hk : ∀ b o, s.heap.get? b = some o → (s.heap.push { cls := .type "slice", data := .fields #[xl, xu, .none] }).get? b = some o := fun b o e => PySem.Heap.get?_push_of_some _ e
  have st : Step W [] σ s σ { s with heap := s.heap.push { cls := .type "slice", data := .fields #[xl, xu, .none] } } := r.grow hk s.toks []
  have hsl := PySem.Heap.IsSliceOf.new s.heap xl xu .none
  have list : ∀ {a : Addr} {items : Array Value} {n : Nat} {vs : List V}, items.size ≤ 1000001 → s.heap.get? a = some { cls := .type "list", data := .seq items n } → Reps W s.heap vs items.toList → newP σ (.lst (pySlice vs l' u')) Q →
      PySem.subscripted slice false (.ref a) (.ref s.heap.objs.size) = PySem.operate ops (PySem.getItem (.ref a) (.ref s.heap.objs.size)) →
      wpAny (model W.prog W.w) A (PyProof.Rows.subscriptTail value slice (.ref a) (.ref s.heap.objs.size)) (EPost W σ s Q) E { s with heap := s.heap.push { cls := .type "slice", data := .fields #[xl, xu, .none] } } := by
    intro a items n vs z e q hn hs
    have hL : (s.heap.push { cls := .type "slice", data := .fields #[xl, xu, .none] }).IsList a items := ⟨_, hk _ _ e, rfl, n, rfl⟩
    refine PyProof.Rows.tail_any (s := { s with heap := s.heap.push { cls := .type "slice", data := .fields #[xl, xu, .none] } }) ⟨_, hk _ _ e, rfl⟩ PySem.slot_list_getitem.lookup (PySem.wpAny_getItem_list_slice hL hsl pl pu .none (by simp) ?_ (by rw [sizeLine_is]; omega)) hs
    obtain ⟨v, σ', hq, hr, st'⟩ := newList_s (xs := pySlice items.toList l' u') st.hr (by have := pySlice_length items.toList l' u'; simp only [Array.length_toList] at this; omega) ((q.mono (st.tups r (Own.nil _))).pySlice l' u') hn s.toks
    rw [← slicePick_is, Array.toArray_toList] at hr st'
    exact ⟨v, σ', hq, hr, st.trans st'⟩
  cases hx with
  | @tup vs a items n z e q =>
    refine PyProof.Rows.tail_any (s := { s with heap := s.heap.push { cls := .type "slice", data := .fields #[xl, xu, .none] } }) ⟨_, hk _ _ e, rfl⟩ PySem.F.slot_tuple_getitem.lookup (getTuple_slice (hk _ _ e) hsl pl pu z (fun hw => ?_) ?_) hs
    · refine ⟨_, _, h, .tup z (hk _ _ e) ?_, st⟩
      rw [← hw]; exact (q.mono (st.tups r (Own.nil _))).pySlice l' u'
    · obtain ⟨v, σ', hq, hr, st'⟩ := newTuple_s (xs := pySlice items.toList l' u') st.hr (by have := pySlice_length items.toList l' u'; simp only [Array.length_toList] at this; omega) ((q.mono (st.tups r (Own.nil _))).pySlice l' u') h s.toks
      exact ⟨v, σ', hq, hr, st.trans st'⟩
  | script =>
    obtain ⟨items, n, z, e, q⟩ := hW.script
    refine list z (r.base _ _ e).1 (q _) ?_ hs
    have : pySlice (W.ns.map V.int) l' u' = (pySlice g.ns l' u').map .int := by rw [hg]; unfold pySlice; simp [List.map_drop, List.map_take]
    rw [this]; exact h
  | ref a =>
    obtain ⟨vs, ha, hn⟩ := h
    obtain ⟨items, n, z, e, q⟩ := r.lst ha
    exact list z e q hn hs
  | _ => exact h.elim
end
end RS

namespace RS
open PySem (Program World Shared Addr Value Obj Heap Str Around wpAny codeAny model Scope NameKind Expr Stmt FuncData cLine recursionLimit sizeLine mainGlobals builtinsNs PyData)

noncomputable def biV : Bi → Value
  | .len => .builtin "len" | .min => .builtin "min" | .max => .builtin "max" | .sum => .builtin "sum" | .isinstance => .builtin "isinstance" | .all => .builtin "all" | .sorted => .builtin "sorted"
  | .int => .type "int" | .list => .type "list" | .tuple => .type "tuple" | .dict => .type "dict"

theorem Reps.intsAre {W : Wd} {h : Heap} : ∀ {vs : List V} {xs : List Value} {ks : List Int}, V.ints vs = some ks → Reps W h vs xs → PyProof.Rows.IntsAre xs ks
  | [], _, _, e, .nil => by simp only [V.ints, Option.some.injEq] at e; subst e; exact .nil
  | .int i :: vs, _, _, e, .cons (.int _ t) q => by
    simp only [V.ints, Option.map_eq_some_iff] at e
    obtain ⟨ks, e, rfl⟩ := e
    exact .cons _ _ (q.intsAre e)

section
variable {prog : Program} {w : World} {A : Around} {E : Value → Shared → Prop} {s : Shared}
theorem typeOf_isi {T : String} (h : T ∈ isiTypes) : PySem.typeOf (.type T) = pure (.type "type") := by
  simp only [isiTypes, List.mem_cons, List.not_mem_nil, or_false] at h
  rcases h with rfl | rfl | rfl | rfl | rfl <;> rfl

theorem isi_yes {x : Value} {Tx T : String} {Q : Value → Shared → Prop} (hT : T ∈ isiTypes) (hx : s.TypeIs x Tx) (hsub : PySem.isSubtype (.type Tx) (.type T) = pure true) (h : Q (.bool true) s) : wpAny (model prog w) A (PySem.call (.builtin "isinstance") [x, .type T]) Q E s :=
  PyProof.Rows.call_isinstance_yes hx (typeOf_isi hT) hsub h

theorem sub_int_int : PySem.isSubtype (.type "int") (.type "int") = pure true := by rw [PySem.isSubtype_type]; kernel_rfl
theorem sub_bool_int : PySem.isSubtype (.type "bool") (.type "int") = pure true := by rw [PySem.isSubtype_type]; kernel_rfl
theorem sub_bool_bool : PySem.isSubtype (.type "bool") (.type "bool") = pure true := by rw [PySem.isSubtype_type]; kernel_rfl
theorem sub_str_str : PySem.isSubtype (.type "str") (.type "str") = pure true := by rw [PySem.isSubtype_type]; kernel_rfl
theorem sub_tuple_tuple : PySem.isSubtype (.type "tuple") (.type "tuple") = pure true := by rw [PySem.isSubtype_type]; kernel_rfl
theorem sub_list_list : PySem.isSubtype (.type "list") (.type "list") = pure true := by rw [PySem.isSubtype_type]; kernel_rfl

theorem sub_no {T U : String} (hT : T ∈ ["int", "str", "tuple", "list", "NoneType"]) (hU : U ∈ isiTypes) (h : T ≠ U) : PySem.isSubtype (.type T) (.type U) = pure false := by
  simp only [isiTypes, List.mem_cons, List.not_mem_nil, or_false] at hT hU
  rcases hT with rfl | rfl | rfl | rfl | rfl <;> rcases hU with rfl | rfl | rfl | rfl | rfl <;> first | exact absurd rfl h | (rw [PySem.isSubtype_type]; kernel_rfl)
theorem sub_no_bool {U : String} (hU : U ∈ isiTypes) (h : U ≠ "bool") (h' : U ≠ "int") : PySem.isSubtype (.type "bool") (.type U) = pure false := by
  simp only [isiTypes, List.mem_cons, List.not_mem_nil, or_false] at hU
  rcases hU with rfl | rfl | rfl | rfl | rfl <;> first | exact absurd rfl h | exact absurd rfl h' | (rw [PySem.isSubtype_type]; kernel_rfl)
theorem type_ne {T U : String} (h : T ≠ U) : (Value.type T == Value.type U) = false := by
  rw [beq_eq_false_iff_ne]; intro e; cases e; exact h rfl
end

section
variable {W : Wd} {A : Around} {E : Value → Shared → Prop} {s : Shared} {σ : Hp} {Q : VP}

theorem isi_sound {v : V} {x : Value} {T : String} {b : Bool} (r : HR W σ s) (hx : Rep W s.heap v x) (hT : T ∈ isiTypes) (hb : v.isA σ T = some b) (hq : Q (.bool b) σ) :
    wpAny (model W.prog W.w) A (PySem.call (.builtin "isinstance") [x, .type T]) (EPost W σ s Q) E s := by
  have yes : b = true → EPost W σ s Q (.bool true) s := fun e => by subst e; exact ⟨_, _, hq, .bool _, .refl r⟩
  have no : b = false → EPost W σ s Q (.bool false) { s with toks := s.toks + 1 } := fun e => by subst e; exact ⟨_, _, hq, .bool _, r.tok _ _⟩
  cases hx with
  | none =>
    simp only [V.isA, Option.some.injEq] at hb
    refine PySem.call_isinstance (PySem.isinstance_false_none (type_ne ?_) (typeOf_isi hT) (sub_no (by decide) hT ?_)) (no hb.symm) <;> (intro e; subst e; revert hT; decide)
  | bool c =>
    simp only [V.isA, Option.some.injEq] at hb
    by_cases h1 : T = "bool"
    · subst h1; exact isi_yes hT (PySem.typeIs_bool s c) sub_bool_bool (yes (by rw [← hb]; rfl))
    · by_cases h2 : T = "int"
      · subst h2; exact isi_yes hT (PySem.typeIs_bool s c) sub_bool_int (yes (by rw [← hb]; rfl))
      · exact PySem.call_isinstance (PySem.isinstance_false_bool (type_ne (Ne.symm h1)) (typeOf_isi hT) (sub_no_bool hT h1 h2)) (no (by rw [← hb]; simp [h1, h2]))
  | int i t =>
    simp only [V.isA, Option.some.injEq] at hb
    by_cases h1 : T = "int"
    · subst h1; exact isi_yes hT (PySem.typeIs_int s i t) sub_int_int (yes (by rw [← hb]; rfl))
    · exact PySem.call_isinstance (PySem.isinstance_false_int (type_ne (Ne.symm h1)) (typeOf_isi hT) (sub_no (by decide) hT (Ne.symm h1))) (no (by rw [← hb]; simp [h1]))
  | str i t =>
    simp only [V.isA, Option.some.injEq] at hb
    by_cases h1 : T = "str"
    · subst h1; exact isi_yes hT (PySem.typeIs_str s _ t) sub_str_str (yes (by rw [← hb]; rfl))
    · exact PySem.call_isinstance (PySem.isinstance_false_str (type_ne (Ne.symm h1)) (typeOf_isi hT) (sub_no (by decide) hT (Ne.symm h1))) (no (by rw [← hb]; simp [h1]))
  | tup z e q =>
    simp only [V.isA, Option.some.injEq] at hb
    by_cases h1 : T = "tuple"
    · subst h1; exact isi_yes hT ⟨_, e, rfl⟩ sub_tuple_tuple (yes (by rw [← hb]; rfl))
    · exact PySem.call_isinstance (PySem.isinstance_false_tuple (type_ne (Ne.symm h1)) (typeOf_isi hT) (sub_no (by decide) hT (Ne.symm h1))) ⟨⟨_, e, rfl⟩, no (by rw [← hb]; simp [h1])⟩
  | ref a =>
    simp only [V.isA] at hb
    split at hb
    · rename_i vs ha
      simp only [Option.some.injEq] at hb
      obtain ⟨items, n, z, e, q⟩ := r.lst ha
      by_cases h1 : T = "list"
      · subst h1; exact isi_yes hT ⟨_, e, rfl⟩ sub_list_list (yes (by rw [← hb]; rfl))
      · exact PySem.call_isinstance (PySem.isinstance_false_list (type_ne (Ne.symm h1)) (typeOf_isi hT) (sub_no (by decide) hT (Ne.symm h1))) ⟨⟨_, e, rfl⟩, no (by rw [← hb]; simp [h1])⟩
    · cases hb
  | _ => simp [V.isA] at hb

theorem ints_items {items : Array Value} {ks : List Int} (h : PyProof.Rows.IntsAre items.toList ks) : ∃ xs : Array (Int × Nat), items = PySem.intItems xs ∧ ks = xs.toList.map (·.1) := by
  obtain ⟨l⟩ := items
  simp only at h
  induction h with
  | nil => exact ⟨#[], by simp [PySem.intItems], rfl⟩
  | @cons n t vs ns _ ih =>
    obtain ⟨xs, e, k⟩ := ih
    refine ⟨((n, t) :: xs.toList).toArray, ?_, by simp [k]⟩
    have : vs = (PySem.intItems xs).toList := by rw [← e]
    simp [PySem.intItems] at this ⊢
    rw [this]
theorem numAt_get {xs : Array (Int × Nat)} {i : Nat} (h : i < xs.size) : PySem.numAt xs i ∈ xs.toList.map (·.1) := by
  unfold PySem.numAt
  rw [Array.getElem?_eq_getElem h]
  simp only [Option.map_some, Option.getD_some, List.mem_map]
  exact ⟨xs[i], by simp, rfl⟩
theorem numAt_mem {xs : Array (Int × Nat)} {a : Int} (h : a ∈ xs.toList.map (·.1)) : ∃ i, i < xs.size ∧ a = PySem.numAt xs i := by
  simp only [List.mem_map] at h
  obtain ⟨p, hp, rfl⟩ := h
  obtain ⟨i, hi, e⟩ := List.getElem_of_mem hp
  refine ⟨i, by simpa using hi, ?_⟩
  unfold PySem.numAt
  rw [Array.getElem?_eq_getElem (by simpa using hi)]
  simp only [Array.getElem_toList] at e
  simp [e]
theorem preSum_is (xs : Array (Int × Nat)) : PySem.preSum (PySem.numAt xs) xs.size = (xs.toList.map (·.1)).sum := by
  have H : ∀ n, n ≤ xs.size → PySem.preSum (PySem.numAt xs) n = ((xs.toList.map (·.1)).take n).sum := by
    intro n
    induction n with
    | zero => intro _; simp [PySem.preSum]
    | succ n ih =>
      intro h
      rw [PySem.preSum, ih (by omega), List.take_add_one, List.sum_append]
      have : (xs.toList.map (·.1))[n]? = some (PySem.numAt xs n) := by
        unfold PySem.numAt
        rw [List.getElem?_map, Array.getElem?_toList, Array.getElem?_eq_getElem (by omega)]; rfl
      rw [this]; simp
  rw [H _ (Nat.le_refl _), List.take_of_length_le (by simp)]


theorem Reps.one_inv {W : Wd} {h : Heap} {v : V} {xs : List Value} (q : Reps W h [v] xs) : ∃ x, xs = [x] ∧ Rep W h v x := by
  cases q with | cons q qs => cases qs; exact ⟨_, rfl, q⟩
theorem Reps.two_inv {W : Wd} {h : Heap} {v v' : V} {xs : List Value} (q : Reps W h [v, v'] xs) : ∃ x x', xs = [x, x'] ∧ Rep W h v x ∧ Rep W h v' x' := by
  cases q with | cons q qs => obtain ⟨x', rfl, q'⟩ := qs.one_inv; exact ⟨_, _, rfl, q, q'⟩
theorem Rep.int_inv {W : Wd} {h : Heap} {i : Int} {x : Value} (q : Rep W h (.int i) x) : ∃ t, x = .int i t := by cases q; exact ⟨_, rfl⟩
theorem Rep.bool_inv {W : Wd} {h : Heap} {b : Bool} {x : Value} (q : Rep W h (.bool b) x) : x = .bool b := by cases q; rfl
theorem Rep.ref_inv {W : Wd} {h : Heap} {a : Nat} {x : Value} (q : Rep W h (.ref a) x) : x = .ref a := by cases q; rfl
theorem Rep.script_inv {W : Wd} {h : Heap} {x : Value} (q : Rep W h .script x) : x = .ref W.sa := by cases q; rfl
theorem Rep.typ_inv {W : Wd} {h : Heap} {T : String} {x : Value} (q : Rep W h (.typ T) x) : x = .type T := by cases q; rfl
theorem Rep.tup_inv {W : Wd} {h : Heap} {vs : List V} {x : Value} (q : Rep W h (.tup vs) x) : ∃ a items n, x = .ref a ∧ items.size ≤ 1000001 ∧ h.get? a = some { cls := .type "tuple", data := .seq items n } ∧ Reps W h vs items.toList := by
  cases q with | tup z e q => exact ⟨_, _, _, rfl, z, e, q⟩

theorem len_list_s {a : Addr} {vs : List V} (r : HR W σ s) (ha : σ a = some (.lst vs)) (h : Q (.int vs.length) σ) : wpAny (model W.prog W.w) A (PySem.call (.builtin "len") [.ref a]) (EPost W σ s Q) E s := by
  obtain ⟨items, n, z, e, q⟩ := r.lst ha
  have hl := q.length; simp only [Array.length_toList] at hl
  refine PySem.Calls.call_len_list ⟨_, e, rfl, n, rfl⟩ (by omega) ⟨_, _, h, ?_, r.tok _ _⟩
  rw [hl]; exact .int _ _
theorem len_tuple_s {x : Value} {vs : List V} (r : HR W σ s) (hx : Rep W s.heap (.tup vs) x) (h : Q (.int vs.length) σ) : wpAny (model W.prog W.w) A (PySem.call (.builtin "len") [x]) (EPost W σ s Q) E s := by
  obtain ⟨a, items, n, rfl, z, e, q⟩ := hx.tup_inv
  have hl := q.length; simp only [Array.length_toList] at hl
  refine PySem.P.len_tuple e (by omega) ⟨_, _, h, ?_, r.tok _ _⟩
  rw [hl]; exact .int _ _
theorem len_script_s (hW : WOk W) (r : HR W σ s) (h : Q (.int W.ns.length) σ) : wpAny (model W.prog W.w) A (PySem.call (.builtin "len") [.ref W.sa]) (EPost W σ s Q) E s := by
  obtain ⟨items, n, z, e, q⟩ := hW.script
  have hl := (q s.heap).length; simp only [Array.length_toList, List.length_map] at hl
  refine PySem.Calls.call_len_list ⟨_, (r.base _ _ e).1, rfl, n, rfl⟩ (by omega) ⟨_, _, h, ?_, r.tok _ _⟩
  rw [hl]; exact .int _ _
theorem min2_s {a b : Int} {t u k : Nat} (hA : Room A k) (r : HR W σ s) (h : Q (.int (min a b)) σ) : wpAny (model W.prog W.w) A (PySem.call (.builtin "min") [.int a t, .int b u]) (EPost W σ s Q) E s := by
  refine PySem.min_two_ints hA.hand fun h' tk hk => ⟨_, _, h, ?_, r.grow hk tk []⟩
  by_cases c : b < a
  · rw [if_pos c, Int.min_eq_right (by omega)]; exact .int _ _
  · rw [if_neg c, Int.min_eq_left (by omega)]; exact .int _ _
theorem max2_s {a b : Int} {t u k : Nat} (hA : Room A k) (r : HR W σ s) (h : Q (.int (max a b)) σ) : wpAny (model W.prog W.w) A (PySem.call (.builtin "max") [.int a t, .int b u]) (EPost W σ s Q) E s := by
  refine PySem.max_two_ints hA.hand fun h' tk hk => ⟨_, _, h, ?_, r.grow hk tk []⟩
  by_cases c : b > a
  · rw [if_pos c, Int.max_eq_right (by omega)]; exact .int _ _
  · rw [if_neg c, Int.max_eq_left (by omega)]; exact .int _ _
theorem minL_s {a : Addr} {vs : List V} {ns : List Int} {k : Nat} (hA : Room A k) (r : HR W σ s) (ha : σ a = some (.lst vs)) (hi : V.ints vs = some ns) (hn : ns ≠ []) (h : ∀ m, m ∈ ns → (∀ b ∈ ns, m ≤ b) → Q (.int m) σ) :
    wpAny (model W.prog W.w) A (PySem.call (.builtin "min") [.ref a]) (EPost W σ s Q) E s := by
  obtain ⟨items, n, z, e, q⟩ := r.lst ha
  obtain ⟨xs, rfl, rfl⟩ := ints_items (q.intsAre hi)
  have hsz : 0 < xs.size := Nat.pos_of_ne_zero fun h0 => hn (by simp [Array.eq_empty_of_size_eq_zero h0])
  refine PySem.min_intList hA.hand ⟨_, e, rfl, n, rfl⟩ hsz fun v h' tk hv hk => ?_
  obtain ⟨t, rfl⟩ := PySem.intItems_at hv
  obtain ⟨h1, h2⟩ := PySem.argBest_lt (PySem.numAt xs) (xs.size - 1)
  refine ⟨_, _, h _ (numAt_get (by omega)) fun b hb => ?_, .int _ t, r.grow hk tk []⟩
  obtain ⟨i, hi', rfl⟩ := numAt_mem hb
  exact h2 i (by omega)
theorem maxL_s {a : Addr} {vs : List V} {ns : List Int} {k : Nat} (hA : Room A k) (r : HR W σ s) (ha : σ a = some (.lst vs)) (hi : V.ints vs = some ns) (hn : ns ≠ []) (h : ∀ m, m ∈ ns → (∀ b ∈ ns, b ≤ m) → Q (.int m) σ) :
    wpAny (model W.prog W.w) A (PySem.call (.builtin "max") [.ref a]) (EPost W σ s Q) E s := by
  obtain ⟨items, n, z, e, q⟩ := r.lst ha
  obtain ⟨xs, rfl, rfl⟩ := ints_items (q.intsAre hi)
  have hsz : 0 < xs.size := Nat.pos_of_ne_zero fun h0 => hn (by simp [Array.eq_empty_of_size_eq_zero h0])
  refine PySem.max_intList hA.hand ⟨_, e, rfl, n, rfl⟩ hsz fun v h' tk hv hk => ?_
  obtain ⟨t, rfl⟩ := PySem.intItems_at hv
  obtain ⟨h1, h2⟩ := PySem.argBest_gt (PySem.numAt xs) (xs.size - 1)
  refine ⟨_, _, h _ (numAt_get (by omega)) fun b hb => ?_, .int _ t, r.grow hk tk []⟩
  obtain ⟨i, hi', rfl⟩ := numAt_mem hb
  exact h2 i (by omega)
theorem sum_s {a : Addr} {vs : List V} {ns : List Int} {k : Nat} (hA : Room A k) (r : HR W σ s) (ha : σ a = some (.lst vs)) (hi : V.ints vs = some ns) (h : Q (.int ns.sum) σ) :
    wpAny (model W.prog W.w) A (PySem.call (.builtin "sum") [.ref a]) (EPost W σ s Q) E s := by
  obtain ⟨items, n, z, e, q⟩ := r.lst ha
  obtain ⟨xs, rfl, rfl⟩ := ints_items (q.intsAre hi)
  refine PySem.sum_intListG hA.hand ⟨_, e, rfl, n, rfl⟩ fun h' tk t' hk => ?_
  rw [preSum_is]
  exact ⟨_, _, h, .int _ _, r.grow hk tk []⟩
theorem tuple_s {a : Addr} {vs : List V} (r : HR W σ s) (ha : σ a = some (.lst vs)) (h : Q (.tup vs) σ) : wpAny (model W.prog W.w) A (PySem.call (.type "tuple") [.ref a]) (EPost W σ s Q) E s := by
  obtain ⟨items, n, z, e, q⟩ := r.lst ha
  refine PySem.call_tuple_list ⟨_, e, rfl, n, rfl⟩ (fun h' hk => ?_) (by rw [sizeLine_is]; omega)
  have st := r.grow hk s.toks []
  obtain ⟨v, σ', hq, hr, st'⟩ := newTuple_s (xs := items.toList) st.hr (by simpa using z) (q.mono (st.tups r (Own.nil _))) h s.toks
  exact ⟨v, σ', hq, hr, st.trans st'⟩
theorem list_s {x : Addr} {T : String} {items : Array Value} {n : Nat} {vs : List V} (r : HR W σ s) (hT : T = "list" ∨ T = "tuple") (z : items.size ≤ 1000001) (e : s.heap.get? x = some { cls := .type T, data := .seq items n }) (q : Reps W s.heap vs items.toList) (h : newP σ (.lst vs) Q) :
    wpAny (model W.prog W.w) A (PySem.call (.type "list") [.ref x]) (EPost W σ s Q) E s := by
  refine PySem.call_list_seq x hT e rfl rfl (fun h' c' hk hn => ?_) (by rw [sizeLine_is]; omega)
  have hno : s.heap.get? s.heap.objs.size = none := by
    cases e' : s.heap.get? s.heap.objs.size with
    | none => rfl
    | some o => exact absurd (PySem.Heap.lt_size e') (Nat.lt_irrefl _)
  exact ⟨_, _, h _ r.fresh', .ref _, r.new hno hk (.lst z hn (q.mono fun b o e _ => hk b o e)) s.toks⟩

end
end RS

namespace RS
open PySem.W PyProof.Rows

/-! ## the sort's tree of questions, over a strict order -/
section
variable {n : Nat} {lt : Nat → Nat → Bool}
noncomputable def KOk (n : Nat) (lt : Nat → Nat → Bool) {α : Type} : KasT α → (α → Prop) → Prop
  | .ret a, Q => Q a
  | .ask i j k, Q => i < n ∧ j < n ∧ KOk n lt (k (lt i j)) Q
theorem KOk.mono {α : Type} {Q Q' : α → Prop} (hq : ∀ a, Q a → Q' a) : ∀ {t : KasT α}, KOk n lt t Q → KOk n lt t Q'
  | .ret a, h => hq a h
  | .ask _ _ _, h => ⟨h.1, h.2.1, KOk.mono hq h.2.2⟩
theorem KOk.bind {α β : Type} {f : α → KasT β} {Q : β → Prop} : ∀ {t : KasT α}, KOk n lt t (fun a => KOk n lt (f a) Q) → KOk n lt (t.bind f) Q
  | .ret _, h => h
  | .ask _ _ _, h => ⟨h.1, h.2.1, KOk.bind h.2.2⟩
structure LtOk (n : Nat) (lt : Nat → Nat → Bool) : Prop where
  irrefl : ∀ i, i < n → lt i i = false
  trans : ∀ i j k, i < n → j < n → k < n → lt i j = true → lt j k = true → lt i k = true
  total : ∀ i j, i < n → j < n → i ≠ j → lt i j = false → lt j i = true
noncomputable def IsP (n : Nat) (p : Array Nat) : Prop := p.toList.Perm (List.range n)
theorem IsP.size {p : Array Nat} (h : IsP n p) : p.size = n := by have := h.length_eq; simpa using this
theorem IsP.get {p : Array Nat} (h : IsP n p) {i : Nat} (hi : i < n) : p.getD i 0 = p[i]'(by rw [h.size]; exact hi) := by simp [Array.getD, h.size, hi]
theorem IsP.bd {p : Array Nat} (h : IsP n p) {i : Nat} (hi : i < n) : p.getD i 0 < n := by
  rw [h.get hi]
  have : p[i]'(by rw [h.size]; exact hi) ∈ List.range n := h.mem_iff.mp (by simp)
  simpa using this
theorem IsP.ne {p : Array Nat} (h : IsP n p) {i j : Nat} (hi : i < n) (hj : j < n) (hij : i ≠ j) : p.getD i 0 ≠ p.getD j 0 := by
  rw [h.get hi, h.get hj]
  have nd : p.toList.Nodup := h.nodup_iff.mpr List.nodup_range
  intro e
  apply hij
  have := (List.getElem_inj (xs := p.toList) (i := i) (j := j) (h₀ := by simp [h.size, hi]) (h₁ := by simp [h.size, hj]) nd).mp (by simpa using e)
  exact this
noncomputable def STo (lt : Nat → Nat → Bool) (p : Array Nat) (k : Nat) : Prop := ∀ i j, i < j → j < k → lt (p.getD i 0) (p.getD j 0) = true
noncomputable def DTo (lt : Nat → Nat → Bool) (p : Array Nat) (k : Nat) : Prop := ∀ i j, i < j → j < k → lt (p.getD j 0) (p.getD i 0) = true

theorem STo.succ (O : LtOk n lt) {p : Array Nat} (h : IsP n p) {m : Nat} (h1 : 1 ≤ m) (hm : m < n) (s : STo lt p m) (e : lt (p.getD (m - 1) 0) (p.getD m 0) = true) : STo lt p (m + 1) := by
  intro i j hij hj
  rcases Nat.lt_or_ge j m with hjm | hjm
  · exact s i j hij hjm
  · have : j = m := by omega
    subst this
    rcases Nat.lt_or_ge i (j - 1) with h2 | h2
    · exact O.trans _ (p.getD (j - 1) 0) _ (h.bd (by omega)) (h.bd (by omega)) (h.bd (by omega)) (s i (j - 1) h2 (by omega)) e
    · have : i = j - 1 := by omega
      subst this; exact e
theorem DTo.succ (O : LtOk n lt) {p : Array Nat} (h : IsP n p) {m : Nat} (h1 : 1 ≤ m) (hm : m < n) (s : DTo lt p m) (e : lt (p.getD m 0) (p.getD (m - 1) 0) = true) : DTo lt p (m + 1) := by
  intro i j hij hj
  rcases Nat.lt_or_ge j m with hjm | hjm
  · exact s i j hij hjm
  · have : j = m := by omega
    subst this
    rcases Nat.lt_or_ge i (j - 1) with h2 | h2
    · exact O.trans _ (p.getD (j - 1) 0) _ (h.bd (by omega)) (h.bd (by omega)) (h.bd (by omega)) e (s i (j - 1) h2 (by omega))
    · have : i = j - 1 := by omega
      subst this; exact e

theorem asc_ok (O : LtOk n lt) {p : Array Nat} (h : IsP n p) : ∀ (f m : Nat), 1 ≤ m → m + f = n → STo lt p m → KOk n lt (kas_asc p f m) (fun r => m ≤ r ∧ r ≤ n ∧ STo lt p r ∧ (r < n → lt (p.getD r 0) (p.getD (r - 1) 0) = true))
  | 0, m, h1, hm, s => ⟨Nat.le_refl _, by omega, s, fun hr => by omega⟩
  | f + 1, m, h1, hm, s => by
    refine ⟨h.bd (by omega), h.bd (by omega), ?_⟩
    cases e : lt (p.getD m 0) (p.getD (m - 1) 0) with
    | true => simp only [if_true]; exact ⟨Nat.le_refl _, by omega, s, fun _ => e⟩
    | false =>
      simp only [Bool.false_eq_true, if_false]
      have e' := O.total _ _ (h.bd (by omega)) (h.bd (by omega)) (h.ne (i := m) (j := m - 1) (by omega) (by omega) (by omega)) e
      exact KOk.mono (fun r hr => ⟨by omega, hr.2⟩) (asc_ok O h f (m + 1) (by omega) (by omega) (s.succ O h h1 (by omega) e'))

theorem desc_ok (O : LtOk n lt) {p : Array Nat} (h : IsP n p) : ∀ (f m : Nat), 1 ≤ m → m + f = n → DTo lt p m → KOk n lt (kas_desc f p m 0) (fun r => r.1 = p ∧ r.2.2 = 0 ∧ m ≤ r.2.1 ∧ r.2.1 ≤ n ∧ DTo lt p r.2.1)
  | 0, m, h1, hm, s => ⟨rfl, rfl, Nat.le_refl _, (show m ≤ n by omega), s⟩
  | f + 1, m, h1, hm, s => by
    refine ⟨h.bd (by omega), h.bd (by omega), ?_⟩
    cases e : lt (p.getD m 0) (p.getD (m - 1) 0) with
    | true =>
      simp only [if_true, Nat.lt_irrefl, gt_iff_lt, if_false]
      exact KOk.mono (fun r hr => ⟨hr.1, hr.2.1, by omega, hr.2.2.2⟩) (desc_ok O h f (m + 1) (by omega) (by omega) (s.succ O h h1 (by omega) e))
    | false =>
      simp only [Bool.false_eq_true, if_false]
      have e' := O.total _ _ (h.bd (by omega)) (h.bd (by omega)) (h.ne (i := m) (j := m - 1) (by omega) (by omega) (by omega)) e
      refine ⟨h.bd (by omega), h.bd (by omega), ?_⟩
      rw [e']
      simp only [if_true]
      exact ⟨rfl, rfl, Nat.le_refl _, (show m ≤ n by omega), s⟩

theorem getD_of {p q : Array Nat} {i j : Nat} (h : p[i]? = q[j]?) : p.getD i 0 = q.getD j 0 := by
  simp only [Array.getD_eq_getD_getElem?, h]

theorem rev_ok {p : Array Nat} (h : IsP n p) {m : Nat} (hm : m ≤ n) (s : DTo lt p m) : IsP n (kas_rev p 0 m) ∧ STo lt (kas_rev p 0 m) m := by
  refine ⟨((mirror_perm p 0 m _).toList).trans h, fun i j hij hj => ?_⟩
  have e := fun k => getElem?_mirror_all (xs := p) (i := 0) (j := m) (by rw [h.size]; exact hm) k
  have ei : (kas_rev p 0 m).getD i 0 = p.getD (0 + m - 1 - i) 0 := by
    refine getD_of ((e i).trans ?_); rw [if_pos ⟨by omega, by omega⟩]
  have ej : (kas_rev p 0 m).getD j 0 = p.getD (0 + m - 1 - j) 0 := by
    refine getD_of ((e j).trans ?_); rw [if_pos ⟨by omega, by omega⟩]
  rw [ei, ej]
  exact s _ _ (by omega) (by omega)

theorem count_ok (O : LtOk n lt) {p : Array Nat} (h : IsP n p) (h2 : 2 ≤ n) : KOk n lt (kas_count n p) (fun r => 1 ≤ r.1 ∧ r.1 ≤ n ∧ IsP n r.2 ∧ STo lt r.2 r.1) := by
  unfold kas_count
  refine KOk.bind (KOk.mono (fun r hr => ?_) (asc_ok O h (n - 1) 1 (by omega) (by omega) (fun i j _ _ => by omega)))
  obtain ⟨hr1, hrn, hs, he⟩ := hr
  by_cases hrn' : r = n
  · subst hrn'
    rw [if_pos (by simp)]
    exact ⟨hr1, Nat.le_refl _, h, hs⟩
  · rw [if_neg (by simpa using hrn')]
    by_cases hr : r > 1
    · rw [if_pos hr]
      refine ⟨h.bd (by omega), h.bd (by omega), ?_⟩
      rw [hs 0 (r - 1) (by omega) (by omega)]
      simp only [if_true]
      exact ⟨hr1, hrn, h, hs⟩
    · rw [if_neg hr]
      have hr1' : r = 1 := by omega
      subst hr1'
      have e := he (by omega)
      unfold kas_descPart
      have D2 : DTo lt p (1 + 1) := by
        intro i j hij hj
        have : i = 0 ∧ j = 1 := by omega
        obtain ⟨rfl, rfl⟩ := this
        exact e
      refine KOk.bind (KOk.mono (fun q hq => ?_) (desc_ok O h (n - (1 + 1)) (1 + 1) (by omega) (by omega) D2))
      obtain ⟨q1, q2, q3⟩ := q
      obtain ⟨e1, e2, hm, hmn, hD⟩ := hq
      simp only at e1 e2 hm hmn hD
      subst e1 e2
      simp only [gt_iff_lt, Nat.lt_irrefl, if_false]
      unfold kas_tail3
      obtain ⟨hP, hS⟩ := rev_ok h hmn hD
      refine KOk.bind (KOk.mono (fun r hr => ?_) (asc_ok O hP (n - q2) q2 (by omega) (by omega) hS))
      exact ⟨by omega, hr.2.1, hP, hr.2.2.1⟩

theorem place_ok (O : LtOk n lt) {p : Array Nat} (h : IsP n p) {k : Nat} (hk : k < n) (s : STo lt p k) : ∀ (f l r : Nat), l ≤ r → r ≤ k → r - l ≤ f → (∀ i, i < l → lt (p.getD i 0) (p.getD k 0) = true) → (∀ i, r ≤ i → i < k → lt (p.getD k 0) (p.getD i 0) = true) →
    KOk n lt (kas_place p k f l r) (fun l' => l' ≤ k ∧ (∀ i, i < l' → lt (p.getD i 0) (p.getD k 0) = true) ∧ (∀ i, l' ≤ i → i < k → lt (p.getD k 0) (p.getD i 0) = true))
  | 0, l, r, hlr, hrk, hf, hl, hr => by
    have : l = r := by omega
    subst this
    exact ⟨hrk, hl, hr⟩
  | f + 1, l, r, hlr, hrk, hf, hl, hr => by
    unfold kas_place
    by_cases hge : l ≥ r
    · rw [if_pos hge]
      have : l = r := by omega
      subst this
      exact ⟨hrk, hl, hr⟩
    · rw [if_neg hge]
      refine ⟨h.bd (by omega), h.bd (by omega), ?_⟩
      cases e : lt (p.getD k 0) (p.getD ((l + r) / 2) 0) with
      | true =>
        simp only [if_true]
        refine place_ok O h hk s f l ((l + r) / 2) (by omega) (by omega) (by omega) hl fun i hi hik => ?_
        by_cases hi' : i = (l + r) / 2
        · rw [hi']; exact e
        · exact O.trans _ _ _ (h.bd (by omega)) (h.bd (i := (l + r) / 2) (by omega)) (h.bd (by omega)) e (s _ _ (by omega) hik)
      | false =>
        simp only [Bool.false_eq_true, if_false]
        have e' := O.total _ _ (h.bd (by omega)) (h.bd (by omega)) (h.ne (i := k) (j := (l + r) / 2) (by omega) (by omega) (by omega)) e
        refine place_ok O h hk s f ((l + r) / 2 + 1) r (by omega) (by omega) (by omega) (fun i hi => ?_) hr
        by_cases hi' : i = (l + r) / 2
        · rw [hi']; exact e'
        · exact O.trans _ _ _ (h.bd (by omega)) (h.bd (i := (l + r) / 2) (by omega)) (h.bd (by omega)) (s _ _ (by omega) (by omega)) e'

theorem bin_ok (O : LtOk n lt) : ∀ (f : Nat) {p : Array Nat} (k : Nat), IsP n p → k + f = n → STo lt p k → KOk n lt (kas_bin f p k) (fun p' => IsP n p' ∧ STo lt p' n)
  | 0, p, k, h, hk, s => ⟨h, (show k = n by omega) ▸ s⟩
  | f + 1, p, k, h, hk, s => by
    unfold kas_bin
    refine KOk.bind (KOk.mono (fun l hl => ?_) (place_ok O h (by omega) s k 0 k (by omega) (by omega) (by omega) (fun i hi => by omega) (fun i hi hi' => by omega)))
    obtain ⟨hlk, ha, hb⟩ := hl
    refine bin_ok O f (k + 1) (((bubble_perm p k _).toList).trans h) (by omega) ?_
    have e := fun i => getElem?_bubble (xs := p) (src := k) (by rw [h.size]; omega) (k - l) (by omega) i
    have E : ∀ i, (bubble p k (k - l)).getD i 0 = if i = l then p.getD k 0 else if l < i ∧ i ≤ k then p.getD (i - 1) 0 else p.getD i 0 := fun i => by
      have := e i
      rw [show k - (k - l) = l from by omega] at this
      by_cases h1 : i = l
      · rw [if_pos h1] at this ⊢; exact getD_of this
      · rw [if_neg h1] at this ⊢
        by_cases h2 : l < i ∧ i ≤ k
        · rw [if_pos h2] at this ⊢; exact getD_of this
        · rw [if_neg h2] at this ⊢; exact getD_of this
    intro i j hij hj
    rw [E i, E j]
    by_cases hi : i = l
    · rw [if_pos hi, if_neg (by omega), if_pos (by omega)]
      exact hb _ (by omega) (by omega)
    · rw [if_neg hi]
      by_cases hil : l < i ∧ i ≤ k
      · rw [if_pos hil, if_neg (by omega), if_pos (by omega)]
        exact s _ _ (by omega) (by omega)
      · rw [if_neg hil]
        by_cases hjl : j = l
        · rw [if_pos hjl]; exact ha _ (by omega)
        · rw [if_neg hjl]
          by_cases hj2 : l < j ∧ j ≤ k
          · rw [if_pos hj2]; 
            exact s _ _ (by omega) (by omega)
          · rw [if_neg hj2]; exact s _ _ hij (by omega)

theorem sort_ok (O : LtOk n lt) (h2 : 2 ≤ n) : KOk n lt (kas_sort n) (fun p => IsP n p ∧ STo lt p n) := by
  unfold kas_sort
  refine KOk.bind (KOk.mono (fun r hr => ?_) (count_ok O (p := List.toArray (List.range n)) (List.Perm.refl _) h2))
  obtain ⟨h1, hn, hP, hS⟩ := hr
  by_cases hlt : r.1 < n
  · rw [if_pos hlt]
    rw [show max r.1 1 = r.1 from by omega]
    exact bin_ok O _ _ hP (by omega) hS
  · rw [if_neg hlt]
    have : r.1 = n := by omega
    rw [this] at hS
    exact ⟨hP, hS⟩
end

/-! ## tuples of ints in their order -/
theorem ltL_irrefl : ∀ k : List Int, ltL k k = false
  | [] => rfl
  | a :: r => by simp [ltL, ltL_irrefl r]
theorem ltL_trans : ∀ {a b c : List Int}, ltL a b = true → ltL b c = true → ltL a c = true
  | [], _, [], h1, h2 => by cases ‹List Int› <;> simp [ltL] at h1 h2
  | [], _, _ :: _, _, _ => rfl
  | _ :: _, [], _, h1, _ => by simp [ltL] at h1
  | _ :: _, _ :: _, [], _, h2 => by simp [ltL] at h2
  | x :: a, y :: b, z :: c, h1, h2 => by
    simp only [ltL, Bool.or_eq_true, decide_eq_true_eq, Bool.and_eq_true, beq_iff_eq] at *
    rcases h1 with h1 | ⟨rfl, h1⟩
    · rcases h2 with h2 | ⟨rfl, h2⟩
      · exact .inl (by omega)
      · exact .inl h1
    · rcases h2 with h2 | ⟨rfl, h2⟩
      · exact .inl h2
      · exact .inr ⟨rfl, ltL_trans h1 h2⟩
theorem ltL_total : ∀ {a b : List Int}, a ≠ b → ltL a b = false → ltL b a = true
  | [], [], h, _ => absurd rfl h
  | [], _ :: _, _, h => by simp [ltL] at h
  | _ :: _, [], _, _ => rfl
  | x :: a, y :: b, hne, h => by
    simp only [ltL, Bool.or_eq_false_iff, decide_eq_false_iff_not, Bool.and_eq_false_iff, beq_eq_false_iff_ne, Bool.or_eq_true, decide_eq_true_eq, Bool.and_eq_true, beq_iff_eq] at *
    rcases Int.lt_trichotomy y x with h' | h' | h'
    · exact .inl h'
    · subst h'
      refine .inr ⟨rfl, ltL_total (fun e => hne (by rw [e])) ?_⟩
      rcases h.2 with h2 | h2
      · exact absurd rfl h2
      · exact h2
    · exact absurd h' h.1

open PySem
section
variable {W : Wd} {A : Around} {E : Value → Shared → Prop} {s : Shared} {σ : Hp}
theorem oneLt_any {a b : Int} {t u : Tok} {c : Bool} {Q : Bool → Shared → Prop} (h : Q (decide (a < b)) s) : wpAny (model W.prog W.w) A (oneLt' c (.int a t) (.int b u)) Q E s := by
  cases c with
  | true => exact oneLt_int h
  | false => exact kat_one _ _ (PyProof.Rows.lt_int h)

theorem lex_ints {Q : Bool → Shared → Prop} {fin : Bool} : ∀ {ks ls : List Int} {xs ys : List Value} (i : Nat), IntsAre xs ks → IntsAre ys ls → fin = decide (xs.length < ys.length) → Q (ltL ks ls) s → KatLex W.prog W.w A true fin Q (xs.zip ys) i s
  | [], [], _, _, i, .nil, .nil, hf, h => by subst hf; exact h
  | [], _ :: _, _, _, i, .nil, .cons _ _ _, hf, h => by subst hf; simpa [ltL, KatLex] using h
  | _ :: _, [], _, _, i, .cons _ _ _, .nil, hf, h => by subst hf; simpa [ltL, KatLex] using h
  | k :: ks, l :: ls, _, _, i, .cons _ t q, .cons _ u q', hf, h => by
    refine kat_cons (wpAny_eqBool_int ?_)
    by_cases e : k = l
    · subst e
      rw [beq_self_eq_true]
      refine kat_yes (lex_ints (i + 1) q q' (by rw [hf]; simp) ?_)
      simpa [ltL] using h
    · rw [beq_false_of_ne e]
      refine kat_no (oneLt_any ?_)
      simpa [ltL, beq_false_of_ne e] using h
end

section
variable {W : Wd} {A : Around} {E : Value → Shared → Prop} {s : Shared} {σ : Hp}
theorem kv_at {h : Heap} {k : List Int} {x : Value} (r : Rep W h (kv k) x) : ∃ a items n, x = .ref a ∧ h.get? a = some { cls := .type "tuple", data := .seq items n } ∧ IntsAre items.toList k := by
  obtain ⟨a, items, n, rfl, z, e, q⟩ := r.tup_inv
  exact ⟨a, items, n, rfl, e, q.intsAre (V.ints_map k)⟩
theorem kat_tups {h : Heap} : ∀ {ks : List (List Int)} {vs : List Value}, Reps W h (ks.map kv) vs → (∀ k ∈ ks, k ≠ []) → ∃ fs, KatTups h vs fs ∧ fs.length = vs.length ∧ ∀ f ∈ fs, ∃ i t, f = Value.int i t
  | [], _, .nil, _ => ⟨[], trivial, rfl, fun _ h => by cases h⟩
  | k :: ks, _, .cons r rs, hne => by
    obtain ⟨fs, t, hl, hf⟩ := kat_tups rs fun k hk => hne k (by simp [hk])
    obtain ⟨a, items, n, rfl, e, q⟩ := kv_at r
    have hk := hne k (by simp)
    have : ∃ f : Value, items[0]? = some f ∧ ∃ i t, f = Value.int i t := by
      have h0 : items[0]? = items.toList[0]? := by simp
      rw [h0]
      generalize items.toList = l at q
      cases q with
      | nil => exact absurd rfl hk
      | cons i t q' => exact ⟨_, rfl, i, t, rfl⟩
    obtain ⟨f, hf0, hf1⟩ := this
    refine ⟨f :: fs, .cons e rfl rfl hf0 t, by simp [hl], fun g hg => ?_⟩
    rcases List.mem_cons.mp hg with rfl | hg
    · exact hf1
    · exact hf g hg

/-- a tree of questions that change nothing -/
theorem kasWp_of {n : Nat} {lt : Nat → Nat → Bool} {α : Type} {cmp : Nat → Nat → (Bool → Shared → Prop) → Shared → Prop} {Q : α → Shared → Prop} (hc : ∀ i j C, i < n → j < n → C (lt i j) s → cmp i j C s) : ∀ {t : KasT α}, KOk n lt t (fun a => Q a s) → t.kasWp cmp Q s
  | .ret _, h => h
  | .ask i j k, h => hc i j _ h.1 h.2.1 (kasWp_of hc h.2.2)

theorem ltL_ok {ks : List (List Int)} (nd : ks.Nodup) : LtOk ks.length (fun i j => ltL (ks.getD i []) (ks.getD j [])) where
  irrefl i _ := ltL_irrefl _
  trans i j k _ _ _ h1 h2 := ltL_trans h1 h2
  total i j hi hj hij h := by
    refine ltL_total (fun e => hij ?_) h
    simp only [List.getD_eq_getElem?_getD, List.getElem?_eq_getElem hi, List.getElem?_eq_getElem hj, Option.getD_some] at e
    exact (List.getElem_inj nd).mp e

theorem sort_tups {a : Addr} {vs : List Value} {ks : List (List Int)} {n : Nat} {P : PySem.Fin → Shared → Prop} (ho : s.heap.get? a = some (seqObj "list" vs.toArray n)) (h64 : vs.length < 64)
    (hk : Reps W s.heap (ks.map kv) vs) (hne : ∀ k ∈ ks, k ≠ []) (nd : ks.Nodup)
    (h : ∀ h' (p : List Nat) c, h'.get? a = some (seqObj "list" (p.map fun i => vs.getD i Value.none).toArray c) → (∀ b o, b ≠ a → s.heap.get? b = some o → h'.get? b = some o) → p.Perm (List.range vs.length) →
      (p.map fun i => ks.getD i []).Pairwise (fun x y => ltL x y = true) → P (.done (.ret .none)) { s with heap := h' }) :
    wpAny (model W.prog W.w) A (Builtin.«list.sort» ⟨[.ref a], []⟩) P E s := by
  have hlen : ks.length = vs.length := by have := hk.length; simpa using this
  have ha : a < s.heap.objs.size := Heap.lt_size ho
  have s1 := Heap.SameBut.update s.heap a (Obj.mapSeq fun _ => (#[] : Array Value))
  obtain ⟨e1, ho1⟩ : ∃ e1, (s.heap.update a (Obj.mapSeq fun _ => (#[] : Array Value))).get? a = some (seqObj "list" #[] e1) := ⟨_, get?_update_seq ho fun _ => #[]⟩
  have ho6 : (((s.heap.update a (Obj.mapSeq fun _ => (#[] : Array Value))).push (seqObj "tuple" vs.toArray 0)).push (seqObj "list" #[] 0)).get? a = some (seqObj "list" #[] e1) := Heap.get?_push_of_some _ (Heap.get?_push_of_some _ ho1)
  have keep : ∀ b o, b ≠ a → s.heap.get? b = some o → (((s.heap.update a (Obj.mapSeq fun _ => (#[] : Array Value))).push (seqObj "tuple" vs.toArray 0)).push (seqObj "list" #[] 0)).get? b = some o := fun b o hb e =>
    Heap.get?_push_of_some _ (Heap.get?_push_of_some _ ((s1.2 b hb).trans e))
  generalize hh3 : ((s.heap.update a (Obj.mapSeq fun _ => (#[] : Array Value))).push (seqObj "tuple" vs.toArray 0)).push (seqObj "list" #[] 0) = h3 at ho6 keep
  have kt : TupKeep s.heap h3 := fun b o e q => keep b o (fun hb => by subst hb; rw [ho] at e; cases e; exact absurd q.1 (by simp [seqObj])) e
  have hk3 := hk.mono kt
  rw [list_sort_plain]
  refine wpAny_bind (listItems_at ho rfl ?_)
  refine wpAny_bind (listUpdate_at ho rfl ?_ (by rw [List.size_toArray, sizeLine_eq]; omega) (Nat.zero_le _))
  refine wpAny_bind (seqEpoch_at ho1 rfl ?_)
  refine wpAny_bind (wpAny_newTuple ?_ (by show vs.length ≤ _; rw [sizeLine_eq]; omega))
  refine wpAny_bind (wpAny_newList ?_ (Nat.zero_le _))
  refine wpAny_holding ?_
  have fin : ∀ (p : List Nat) (out : Array Value), out = (p.map fun i => vs.getD i Value.none).toArray → p.Perm (List.range vs.length) → (p.map fun i => ks.getD i []).Pairwise (fun x y => ltL x y = true) → P (.done (.ret .none)) { s with heap := h3.update a (Obj.mapSeq fun _ => out) } := by
    rintro p out rfl hp hs
    obtain ⟨c2, hc2⟩ : ∃ c2, (h3.update a (Obj.mapSeq fun _ => (p.map fun i => vs.getD i Value.none).toArray)).get? a = some (seqObj "list" (p.map fun i => vs.getD i Value.none).toArray c2) := ⟨_, get?_update_seq ho6 fun _ => (p.map fun i => vs.getD i Value.none).toArray⟩
    exact h _ p c2 hc2 (fun b o hb e => ((Heap.SameBut.update h3 a (Obj.mapSeq fun _ => (p.map fun i => vs.getD i Value.none).toArray)).2 b hb).trans (keep b o hb e)) hp hs
  show wpAny (model W.prog W.w) A _ P E { s with heap := ((s.heap.update a (Obj.mapSeq fun _ => (#[] : Array Value))).push (seqObj "tuple" vs.toArray 0)).push (seqObj "list" #[] 0) }
  rw [hh3]
  dsimp only
  have hsz : vs.toArray.size = vs.length := by simp
  by_cases h2 : vs.toArray.size < 2
  · rw [if_pos h2, if_pos h2]
    refine wpAny_bind (wpAny_pure ?_)
    rw [StateT.run_pure]
    refine wpAny_bind (wpAny_pure ?_)
    dsimp only
    refine wpAny_bind (seqEpoch_at ho6 rfl ?_)
    have hout : (arrOf (SortSt.mk' general' (vs.toArray.zip vs.toArray) #[] 7 none)).map (·.2) = ((List.range vs.length).map fun i => vs.getD i Value.none).toArray := by
      show (vs.toArray.zip vs.toArray).map (·.2) = _
      apply Array.toList_inj.mp
      apply List.ext_getElem?
      intro i
      by_cases hi : i < vs.length
      · simp [hi]
      · simp [hi, Nat.le_of_not_lt hi]
    refine wpAny_bind (listUpdate_at ho6 rfl ?_ (Nat.zero_le _) (by rw [hout, List.size_toArray, List.length_map, List.length_range, sizeLine_eq]; omega))
    simp only [bne_self_eq_false, Bool.false_eq_true, if_false]
    refine wpAny_pure (fin (List.range vs.length) _ hout (List.Perm.refl _) ?_)
    rw [hsz] at h2
    have : vs.length = 0 ∨ vs.length = 1 := by omega
    rcases this with e | e <;> rw [e] <;> simp [List.range_succ]
  · rw [if_neg h2, if_neg h2]
    have h2' : 2 ≤ vs.length := by rw [hsz] at h2; omega
    obtain ⟨fs, tf, hfl, hfi⟩ := kat_tups hk3 hne
    refine wpAny_bind (kat_kind (s := { s with heap := h3 }) (T := .type "int") tf (by omega) (fun v hv => ?_) (by decide) ?_)
    · obtain ⟨i, t, rfl⟩ := hfi v hv
      exact Looks.of_pure rfl
    have hlt : ∀ i j C, i < vs.length → j < vs.length → C (ltL (ks.getD i []) (ks.getD j [])) { s with heap := h3 } → kas_ask W.prog W.w A (tuples' (Value.type "int" != Value.type "tuple")) vs i j C { s with heap := h3 } := by
      intro i j C hi hj hC
      obtain ⟨x, hx, rx⟩ := hk3.get (i := i) (v := kv (ks.getD i [])) (by simp [hlen, hi])
      obtain ⟨y, hy, ry⟩ := hk3.get (i := j) (v := kv (ks.getD j [])) (by simp [hlen, hj])
      unfold kas_ask
      rw [show vs.getD i Value.none = x from by simp [hx], show vs.getD j Value.none = y from by simp [hy]]
      obtain ⟨xa, xi, xn, rfl, ex, qx⟩ := kv_at rx
      obtain ⟨ya, yi, yn, rfl, ey, qy⟩ := kv_at ry
      rw [show (Value.type "int" != Value.type "tuple") = true from by decide]
      exact kat_lt ex rfl ey rfl (lex_ints 0 qx qy (by simp) hC)
    have O := ltL_ok nd
    rw [hlen] at O
    have run := kasWp_of (s := { s with heap := h3 }) (Q := fun p s' => s' = { s with heap := h3 } ∧ IsP vs.length p ∧ STo (fun i j => ltL (ks.getD i []) (ks.getD j [])) p vs.length) hlt (KOk.mono (fun p hp => ⟨rfl, hp⟩) (sort_ok O h2'))
    refine wpAny_bind (wpAny_mono (kat_run (Q := fun st' s' => ∃ p : Array Nat, p.size = vs.length ∧ arrOf st' = p.map (kas_item (vs.toArray.zip vs.toArray)) ∧ failedOf st' = none ∧ s' = { s with heap := h3 } ∧ IsP vs.length p ∧ STo (fun i j => ltL (ks.getD i []) (ks.getD j [])) p vs.length)
      rfl h2' h64 (fun p' st' s' a1 a2 a3 a4 => ⟨p', a1, a2, a3, a4⟩) run) ?_ fun _ _ e => e)
    rintro ⟨⟨⟩, st'⟩ s' ⟨p, hp, har, hf, rfl, hP, hS⟩
    dsimp only
    have hout : (arrOf st').map (·.2) = (p.toList.map fun i => vs.getD i Value.none).toArray := kat_snds rfl har
    refine wpAny_bind (seqEpoch_at ho6 rfl ?_)
    refine wpAny_bind (listUpdate_at ho6 rfl ?_ (Nat.zero_le _) (by rw [hout, List.size_toArray, List.length_map, Array.length_toList, hp, sizeLine_eq]; omega))
    rw [hf]
    simp only [bne_self_eq_false, Bool.false_eq_true, if_false]
    refine wpAny_pure (fin p.toList _ hout hP ?_)
    rw [List.pairwise_iff_getElem]
    intro i j hi hj hij
    simp only [List.length_map, Array.length_toList] at hi hj
    have := hS i j hij (by omega)
    simp only [Array.getD_eq_getD_getElem?, Array.getElem?_eq_getElem hi, Array.getElem?_eq_getElem hj, Option.getD_some] at this
    simpa using this
end
end RS

namespace RS
open PySem (Program World Shared Addr Value Obj Heap Str Around wpAny codeAny model Scope NameKind Expr Stmt FuncData cLine recursionLimit sizeLine mainGlobals builtinsNs PyData DictEntry Walks)
open PySem PyProof.Rows

/-! ## over the keys of a dict, whatever they are -/
noncomputable def dctObj (es : Array DictEntry) (ep : Nat) : Obj := { cls := .type "dict", data := .dict es ep }
section
variable {prog : Program} {w : World} {A : Around} {E : Value → Shared → Prop} {s : Shared} {d it : Addr} {es : Array DictEntry} {ep i : Nat}

theorem keysE_iter {Q : Value → Shared → Prop} (hd : (d == sysModules) = false) (ho : s.heap.get? d = some (dctObj es ep))
    (hQ : Q (.ref s.heap.objs.size) { s with heap := s.heap.push { cls := .type "dict_keyiterator", data := .fields #[.ref d, .int 0 0, .int es.size 0, .int ep 0] } }) :
    wpAny (model prog w) A (pyIter (.ref d)) Q E s := by
  have hT : s.TypeIs (.ref d) "dict" := ⟨_, ho, rfl⟩
  refine wpAny_pyIter_slot hT F.slot_dict_iter (wpAny_call_entry F.slot_dict_iter hT F.entry_dict_iter ?_ (F.args_dict_iter_1 _))
  unfold Builtin.«dict.__iter__»
  refine wpAny_bind ?_
  unfold Builtin.Dict.dictSlotNone
  refine wpAny_bind (wpAny_notOrdered_dict hT ?_)
  show wpAny _ _ (pure (Value.ref d)) _ _ s
  refine wpAny_pure ?_
  show wpAny _ _ (Builtin.Dict.showsAll d >>= _) _ _ s
  unfold Builtin.Dict.showsAll
  rw [if_neg (by rw [hd]; exact Bool.false_ne_true)]
  refine wpAny_bind (wpAny_pure (wpAny_bind (wpAny_dictEntries ho rfl (wpAny_bind (wpAny_dictEpoch ho rfl ?_)))))
  refine wpAny_bind (wpAny_newObj_type (wpAny_pure ⟨_, rfl, "dict_keyiterator", _, ⟨_, Heap.get?_push_size _ rfl, rfl⟩, F.slot_dict_keyiterator_next.lookup, ?_⟩))
  simpa [rawInt] using hQ

theorem keysE_item {Q : Option Value → Shared → Prop} (hit : s.heap.IsKeyIter it d i es.size ep) (hod : s.heap.get? d = some (dctObj es ep)) (hlt : i < es.size)
    (hQ : ∀ h', h'.IsKeyIter it d (i + 1) es.size ep → Heap.SameBut it s.heap h' → Q (some es[i].key) { s with heap := h' }) :
    wpAny (model prog w) A (pyNext (.ref it)) Q E s := by
  obtain ⟨o, ho, hc, hd⟩ := id hit
  unfold pyNext
  refine wpAny_bind (wpAny_attempt (wpAny_callSpecial?_slot (name := Str.ofString "__next__") hit.typeIs F.slot_dict_keyiterator_next
    (wpAny_call_entry F.slot_dict_keyiterator_next hit.typeIs F.entry_dict_keyiterator_next ?_ (F.args_dict_keyiterator_next_1 _))))
  refine wpAny_bind (wpAny_pure (wpAny_bind (wpAny_bind ?_)))
  first | refine wpAny_bind (wpAny_typeNameOfWhole_keyiter hit.typeIs (wpAny_pure ?_)) | refine wpAny_bind (wpAny_typeNameOf_keyiter hit.typeIs (wpAny_pure ?_))
  refine wpAny_bind (wpAny_fieldsOf ho hd ?_)
  have hown : Builtin.Dict_items.ownsTuple "dict_keyiterator" = false := by decide
  simp only [hown, Bool.false_eq_true, if_false]
  show wpAny _ _ (if (Value.ref d == Value.none) = true then _ else _) _ _ s
  rw [if_neg (show ¬ ((Value.ref d == Value.none) = true) from Bool.false_ne_true)]
  refine wpAny_bind (wpAny_pure (wpAny_bind (wpAny_dictEntries hod rfl ?_)))
  rw [if_neg (by simp)]
  refine wpAny_bind (wpAny_pure (wpAny_bind (wpAny_dictEpoch hod rfl ?_)))
  rw [if_neg (by simp)]
  refine wpAny_pure ?_
  simp only [show ¬ ((i : Int) < 0) from by omega, if_false, Int.toNat_natCast, Array.getElem?_eq_getElem hlt]
  refine wpAny_bind ?_
  first | refine wpAny_bind (wpAny_typeNameOfWhole_keyiter hit.typeIs (wpAny_pure ?_)) | refine wpAny_bind (wpAny_typeNameOf_keyiter hit.typeIs (wpAny_pure ?_))
  refine wpAny_bind (wpAny_isOneOf_keyiter hit.typeIs ?_)
  show wpAny _ _ (setField (.ref it) 1 (rawInt ((i : Int) + 1)) >>= _) _ _ s
  refine wpAny_bind (wpAny_setField ho hd (by simp) ?_)
  have hit' : (s.heap.update it (Obj.mapFields (·.setIfInBounds 1 (rawInt ((i : Int) + 1))))).IsKeyIter it d (i + 1) es.size ep :=
    ⟨_, Heap.get?_update_self _ ho (Obj.isFreed_of_fields (Obj.data_mapFields hd _)), (Obj.cls_mapFields ..).trans hc, by rw [Obj.data_mapFields hd]; simp [rawInt]⟩
  refine wpAny_bind (wpAny_holding ?_)
  refine wpAny_bind (wpAny_isOneOf_keyiter (s := { s with heap := s.heap.update it (Obj.mapFields (·.setIfInBounds 1 (rawInt ((i : Int) + 1)))) }) hit'.typeIs ?_)
  show wpAny _ _ (pure es[i].key) _ _ _
  exact wpAny_pure (wpAny_pure ⟨_, rfl, wpAny_pure (hQ _ hit' (Heap.SameBut.update ..))⟩)

theorem keysE_end {Q : Option Value → Shared → Prop} (hh : A.handled = none) (hit : s.heap.IsKeyIter it d i es.size ep) (hod : s.heap.get? d = some (dctObj es ep)) (hge : es.size ≤ i)
    (hQ : ∀ h', Heap.ExtBut it s.heap h' → Q none { s with heap := h' }) : wpAny (model prog w) A (pyNext (.ref it)) Q E s := by
  obtain ⟨o, ho, hc, hd⟩ := id hit
  unfold pyNext
  refine wpAny_bind (wpAny_attempt (wpAny_callSpecial?_slot (name := Str.ofString "__next__") hit.typeIs F.slot_dict_keyiterator_next
    (wpAny_call_entry F.slot_dict_keyiterator_next hit.typeIs F.entry_dict_keyiterator_next ?_ (F.args_dict_keyiterator_next_1 _))))
  refine wpAny_bind (wpAny_pure (wpAny_bind (wpAny_bind ?_)))
  first | refine wpAny_bind (wpAny_typeNameOfWhole_keyiter hit.typeIs (wpAny_pure ?_)) | refine wpAny_bind (wpAny_typeNameOf_keyiter hit.typeIs (wpAny_pure ?_))
  refine wpAny_bind (wpAny_fieldsOf ho hd ?_)
  have hown : Builtin.Dict_items.ownsTuple "dict_keyiterator" = false := by decide
  simp only [hown, Bool.false_eq_true, if_false]
  show wpAny _ _ (if (Value.ref d == Value.none) = true then _ else _) _ _ s
  rw [if_neg (show ¬ ((Value.ref d == Value.none) = true) from Bool.false_ne_true)]
  refine wpAny_bind (wpAny_pure (wpAny_bind (wpAny_dictEntries hod rfl ?_)))
  rw [if_neg (by simp)]
  refine wpAny_bind (wpAny_pure (wpAny_bind (wpAny_dictEpoch hod rfl ?_)))
  rw [if_neg (by simp)]
  refine wpAny_pure ?_
  simp only [show ¬ ((i : Int) < 0) from by omega, if_false, Int.toNat_natCast, Array.getElem?_eq_none hge]
  refine wpAny_bind ?_
  first | refine wpAny_bind (wpAny_typeNameOfWhole_keyiter hit.typeIs (wpAny_pure ?_)) | refine wpAny_bind (wpAny_typeNameOf_keyiter hit.typeIs (wpAny_pure ?_))
  show wpAny _ _ (setField (.ref it) 0 .none >>= _) _ _ s
  refine wpAny_bind (wpAny_setField ho hd (by simp) ?_)
  show wpAny _ _ (newExc (.type "StopIteration") [] >>= _) _ _ _
  refine wpAny_bind ?_
  simp only [newExc, newTuple]
  refine wpAny_bind (wpAny_newObj_type ?_ (by size_fits))
  refine wpAny_bind (m := firstArgMember _ _) (wpAny_of_eq (a := Value.none) (by first | rfl | (simp only [firstArgMember]; rfl)) ?_)
  refine wpAny_newObj_type ?_ (by size_fits)
  simp only [raiseNew]
  refine wpAny_bind (wpAny_handled ?_)
  rw [show A.in1.handled = none from hh]
  refine wpAny_bind (wpAny_pure (wpAny_throw ?_))
  refine wpAny_bind (wpAny_isInstance (T := "StopIteration") (b := true) ⟨_, Heap.get?_push_size _ rfl, rfl⟩ isSubtype_stop ?_)
  exact wpAny_pure (hQ _ (((Heap.SameBut.update ..).extBut.push _).push _))

theorem walksE (hh : A.handled = none) (I d : Addr) (hne : d ≠ I) (es : Array DictEntry) (ep : Nat) :
    Walks prog w A I [I, d] [I] es.size (fun i v => ∃ e, es[i]? = some e ∧ v = e.key) (fun i h => h.IsKeyIter I d i es.size ep ∧ h.get? d = some (dctObj es ep)) where
  sub := fun b hb => by simp at hb; simp [hb]
  frame := fun _ _ _ st hk => ⟨st.1.at fun o e => hk I (by simp) o e, hk d (by simp) _ st.2⟩
  item := fun i s Q E hi st hQ => keysE_item st.1 st.2 hi fun h' hit' hs' =>
    hQ _ h' s.toks ⟨es[i], by simp [hi], rfl⟩ ⟨hit', hs'.extBut d _ hne st.2⟩ fun b o hb e => hs'.extBut b o (fun h => hb (by simp [h])) e
  done := fun s Q E st hQ => keysE_end hh st.1 st.2 (Nat.le_refl _) fun h' he' => hQ h' s.toks fun b o hb e => he' b o (fun h => hb (by simp [h])) e
  self := fun _ _ _ _ st hQ => wpAny_pyIter_keyiter st.1 hQ

theorem srcE (lo : (d == sysModules) = false) : PySem.W.KdlSrc prog w "dict" d d es.size (fun i v => ∃ e, es[i]? = some e ∧ v = e.key) (fun h => h.get? d = some (dctObj es ep)) where
  type := fun _ hm => ⟨_, hm, rfl⟩
  there := fun _ hm => ⟨Heap.lt_size hm, Heap.lt_size hm⟩
  keep := fun _ _ hm hk => hk d (.inl rfl) _ hm
  notList := by decide
  notTuple := by decide
  hint := fun _ _ _ _ hm hq => PySem.W.kdl_hint_dict ⟨_, hm, rfl⟩ hq
  iter := fun _ _ hh hm => ⟨_, _, (fun _ _ hq => keysE_iter lo hm hq), walksE hh _ d (Nat.ne_of_lt (Heap.lt_size hm)) es ep, ⟨⟨_, Heap.get?_push_size _ rfl, rfl, rfl⟩, Heap.get?_push_of_some _ hm⟩⟩
theorem meets_lenE (hd : (d == sysModules) = false) :
    MeetsIn prog w (Builtin.«dict.__len__» ⟨[.ref d], []⟩) (fun _ R s => ∃ es ep, s.heap.get? d = some (dctObj es ep) ∧ R (.ok (.ret (.int es.size s.toks))) { s with toks := s.toks + 1 }) :=
  .of_wp fun A R s ⟨es, ep, ho, h⟩ => by
    show wpAny _ _ (dictSize d >>= _) _ _ s
    unfold dictSize
    refine wpAny_bind (wpAny_bind (wpAny_dictEntries ho rfl (wpAny_pure ?_)))
    show wpAny _ _ (Builtin.Dict.pendingCount d >>= _) _ _ s
    refine wpAny_bind (wpAny_pendingCount_other hd ?_)
    refine wpAny_ret_mkInt ?_
    rw [Nat.add_zero]; exact h
theorem lenE {Q : Value → Shared → Prop} (hd : (d == sysModules) = false) (ho : s.heap.get? d = some (dctObj es ep)) (hfit : (es.size : Int) < 2 ^ 63) (h : Q (.int es.size (s.toks + 1)) { s with toks := s.toks + 1 + 1 }) :
    wpAny (model prog w) A (call (.builtin "len") [.ref d]) Q E s := by
  refine Calls.call_function_entry kind_len plain_len entry_len (args_len1 _) ?_
  have hT : s.TypeIs (.ref d) "dict" := ⟨_, ho, rfl⟩
  unfold Builtin.«len»
  refine wpAny_bind (m := oneArg "len" _) (wpAny_pure ?_)
  refine wpAny_bind (m := callSpecial? (.ref d) (Str.ofString "__len__")) (wpAny_callSpecial?_slot (name := Str.ofString "__len__") hT F.slot_dict_len
    (call_meetsIn F.slot_dict_len hT F.entry_dict_len (F.args_dict_len_1 _) (meets_lenE hd) ⟨es, ep, ho, ?_⟩))
  show wpAny _ _ _ _ _ { s with toks := s.toks + 1 }
  refine wpAny_bind (wpAny_holding (wpAny_pure ?_))
  refine wpAny_bind (wpAny_letGo ?_)
  show wpAny _ _ (if ((es.size : Nat) : Int) < 0 then _ else _) _ _ _
  rw [if_neg (by omega)]
  show wpAny _ _ (if ((es.size : Nat) : Int) ≥ 2 ^ 63 then _ else _) _ _ _
  rw [if_neg (by omega)]
  exact wpAny_bind (wpAny_mkInt (wpAny_pure ⟨_, rfl, h⟩))
end

theorem size_none (h : Heap) : h.get? h.objs.size = none := by
  cases e : h.get? h.objs.size with
  | none => rfl
  | some o => exact absurd (PySem.Heap.lt_size e) (Nat.lt_irrefl _)

/-! ## the keys of a dict by tuples -/
section
variable {W : Wd} {A : Around} {E : Value → Shared → Prop} {s : Shared} {σ : Hp} {Q : VP}

theorem keys_reps {h : Heap} {es : List (List Int × V)} {des : Array DictEntry} {xs : List (List Int × Addr × Value)} (hd : des.toList = xs.map (entryOfKey (tupleKind (intKind W.prog W.w)))) (m : es.map (·.1) = xs.map (·.1))
    (rk : ∀ x ∈ xs, Rep W h (kv x.1) (.ref x.2.1)) {acc : Array Value} (ha : ItemsOf (fun i v => ∃ e, des[i]? = some e ∧ v = e.key) acc des.size) : Reps W h (es.map fun e => kv e.1) acc.toList := by
  have e1 : (es.map fun e => kv e.1) = xs.map fun x => kv x.1 := by
    have := congrArg (List.map kv) m
    rw [List.map_map, List.map_map] at this
    exact this
  have e2 : acc.toList = xs.map fun x => Value.ref x.2.1 := by
    apply List.ext_getElem?
    intro i
    have hsz : des.size = xs.length := size_of_entries hd
    by_cases hi : i < xs.length
    · have hi' : i < acc.size := by rw [ha.1, hsz]; exact hi
      obtain ⟨e, he, hv⟩ := ha.2 i acc[i] (by simp [hi'])
      have : des[i]? = (xs[i]?).map (entryOfKey (tupleKind (intKind W.prog W.w))) := entry_at hd i
      rw [this] at he
      rw [List.getElem?_eq_getElem hi] at he
      simp only [Option.map_some, Option.some.injEq] at he
      simp only [Array.getElem?_toList, List.getElem?_map, List.getElem?_eq_getElem hi, Option.map_some]
      rw [Array.getElem?_eq_getElem hi', hv, ← he]
      rfl
    · rw [List.getElem?_eq_none (by simp [ha.1, hsz]; omega), List.getElem?_eq_none (by simp; omega)]
  rw [e1, e2]
  clear e1 e2 m hd ha
  induction xs with
  | nil => exact .nil
  | cons x xs ih => exact .cons (rk x (by simp)) (ih fun y hy => rk y (by simp [hy]))

theorem list_dct_s {a : Addr} {es : List (List Int × V)} {ep : Nat} {k : Nat} (hA : Room A k) (hsys : W.s₀.heap.get? PySem.sysModules ≠ none) (r : HR W σ s) (ha : σ a = some (.dct es ep)) (h : newP σ (.lst (es.map fun e => kv e.1)) Q) :
    wpAny (model W.prog W.w) A (PySem.call (.type "list") [.ref a]) (EPost W σ s Q) E s := by
  obtain ⟨des, xs, z, e, d, i, n, m, q, rk⟩ := r.dctK ha
  have hsz : des.size = xs.length := size_of_entries d
  refine PySem.W.kdl_call (srcE (es := des) (ep := ep) (r.notSys hsys ha)) hA.hand e (by rw [hsz, sizeLine_is]; omega) fun h' tk acc c hk hn hacc => ?_
  have st := r.grow hk tk []
  have kt := st.tups r (Own.nil _)
  have rr := keys_reps (h := h') d m (fun x hx => (rk x hx).mono kt) hacc
  exact ⟨_, _, h _ r.fresh', .ref _, r.new (size_none _) hk (.lst (by rw [hacc.1, hsz]; exact z) hn rr) tk⟩

theorem len_dct_s {a : Addr} {es : List (List Int × V)} {ep : Nat} (hsys : W.s₀.heap.get? PySem.sysModules ≠ none) (r : HR W σ s) (ha : σ a = some (.dct es ep)) (h : Q (.int es.length) σ) :
    wpAny (model W.prog W.w) A (PySem.call (.builtin "len") [.ref a]) (EPost W σ s Q) E s := by
  obtain ⟨des, xs, z, e, d, i, n, m, q, rk⟩ := r.dctK ha
  have hsz : des.size = xs.length := size_of_entries d
  have hlen : es.length = xs.length := by have := congrArg List.length m; simpa using this
  refine lenE (r.notSys hsys ha) e (by omega) ?_
  rw [hsz, ← hlen]
  exact ⟨_, _, h, .int _ _, r.tok _ _⟩
end
end RS

namespace RS
open PySem (Program World Shared Addr Value Obj Heap Str Around wpAny codeAny model Scope NameKind Expr Stmt FuncData cLine recursionLimit sizeLine mainGlobals builtinsNs PyData)
section
variable {W : Wd} {A : Around} {E : Value → Shared → Prop} {s : Shared} {σ : Hp} {Q : VP}

open PySem PySem.W PyProof.Rows in
theorem reps_pick {h : Heap} {ks : List (List Int)} {vs : List Value} (hk : Reps W h (ks.map kv) vs) : ∀ (p : List Nat), (∀ i ∈ p, i < vs.length) → Reps W h ((p.map fun i => ks.getD i []).map kv) (p.map fun i => vs.getD i Value.none)
  | [], _ => .nil
  | i :: p, hp => by
    have hi := hp i (by simp)
    have hlen : ks.length = vs.length := by have := hk.length; simpa using this
    obtain ⟨x, hx, rx⟩ := hk.get (i := i) (v := kv (ks.getD i [])) (by simp [hlen, hi])
    simp only [List.map_cons]
    refine .cons ?_ (reps_pick hk p fun j hj => hp j (by simp [hj]))
    rw [show vs.getD i Value.none = x from by simp [hx]]
    exact rx
theorem pick_all {α : Type} (ks : List α) (d : α) : (List.range ks.length).map (fun i => ks.getD i d) = ks := by
  apply List.ext_getElem?
  intro i
  by_cases hi : i < ks.length
  · simp [hi]
  · simp [hi, Nat.le_of_not_lt hi]

open PySem PySem.W PyProof.Rows in
theorem sorted_s {a : Addr} {ks : List (List Int)} {k : Nat} (hA : Room A k) (hsys : W.s₀.heap.get? PySem.sysModules ≠ none) (r : HR W σ s)
    (hsrc : match σ a with | some (.lst vs) => vs = ks.map kv | some (.dct es _) => es.map (·.1) = ks | _ => False) (nd : ks.Nodup) (h64 : ks.length < 64) (hne : ∀ k ∈ ks, k ≠ [])
    (h : ∀ ys : List (List Int), ys.Perm ks → ys.Pairwise (fun x y => ltL x y = true) → newP σ (.lst (ys.map kv)) Q) :
    wpAny (model W.prog W.w) A (PySem.call (.builtin "sorted") [.ref a]) (EPost W σ s Q) E s := by
  refine Calls.call_function_entry kind_sorted plain_sorted entry_sorted (args_sorted1 _) ?_
  unfold Builtin.«sorted»
  refine wpAny_bind (m := checkCount "sorted" 1 1 _) (wpAny_pure ?_)
  have fin : ∀ (h' : Heap) (tk : Nat) (vs : List Value), (∀ b o, s.heap.get? b = some o → h'.get? b = some o) → Reps W h' (ks.map kv) vs →
      wpAny (model W.prog W.w) A.in1 (do
        let l ← newList vs
        let _ ← holding [l] (call (.builtin "list.sort") [l])
        ret l) (fun fin s' => ∃ v, fin = .done (.ret v) ∧ EPost W σ s Q v s') E { s with heap := h', toks := tk } := by
    intro h' tk vs hk rr
    have hlen : ks.length = vs.length := by have := rr.length; simpa using this
    refine wpAny_bind (wpAny_newList ?_ (by rw [sizeLine_eq]; omega))
    have hoL : (h'.push (seqObj "list" vs.toArray 0)).get? h'.objs.size = some (seqObj "list" vs.toArray 0) := Heap.get?_push_size _ rfl
    have kp : ∀ b o, h'.get? b = some o → (h'.push (seqObj "list" vs.toArray 0)).get? b = some o := fun b o e => Heap.get?_push_of_some _ e
    refine wpAny_bind (wpAny_holding (wpAny_call_entry slot_list_sort ⟨_, hoL, rfl⟩ entry_list_sort (sort_tups (W := W) (s := { s with heap := h'.push (seqObj "list" vs.toArray 0), toks := tk }) (ks := ks) hoL (by omega) (rr.mono fun b o e _ => kp b o e) hne nd
      fun h'' p c hg hkeep hp hs => ⟨_, rfl, wpAny_pure ⟨_, rfl, ?_⟩⟩) (args_list_sort _)))
    have hno : s.heap.get? h'.objs.size = none := by
      cases e : s.heap.get? h'.objs.size with
      | none => rfl
      | some o => have := hk _ _ e; rw [size_none] at this; cases this
    have kk : ∀ b o, s.heap.get? b = some o → h''.get? b = some o := fun b o e => hkeep b o (fun q => by subst q; rw [hno] at e; cases e) (kp _ _ (hk b o e))
    have kt : TupKeep h' h'' := fun b o e q => hkeep b o (fun q' => by subst q'; rw [size_none] at e; cases e) (kp _ _ e)
    have hpm : ∀ i ∈ p, i < vs.length := fun i hi => by simpa using hp.mem_iff.mp hi
    have hperm : (p.map fun i => ks.getD i []).Perm ks := by
      have := hp.map (fun i => ks.getD i [])
      rw [← hlen, pick_all] at this
      exact this
    refine ⟨_, _, h _ hperm hs _ (r.fresh hno), .ref _, r.new hno kk (.lst ?_ hg ?_) tk⟩
    · have := hp.length_eq; simp at this ⊢; omega
    · exact (reps_pick rr p hpm).mono kt
  split at hsrc
  · rename_i vs ha
    subst hsrc
    obtain ⟨items, n, z, e, q⟩ := r.lst ha
    have hlen := q.length
    simp only [List.length_map, Array.length_toList] at hlen
    refine wpAny_bind (collect_list (vs := items.toList) ⟨_, e, rfl, n, by simp⟩ ?_ (by rw [sizeLine_eq]; simp; omega))
    have keep : ∀ b o, s.heap.get? b = some o → ((s.heap.push (seqObj "list" #[] 0)).update s.heap.objs.size (Obj.mapSeq (· ++ items.toList.toArray))).get? b = some o := fun b o q => by
      have hlt : b < s.heap.objs.size := Heap.lt_size q
      rw [Heap.get?_update_ne _ _ _ _ (Nat.ne_of_lt hlt), Heap.get?_push_ne _ _ _ (Nat.ne_of_lt hlt)]
      exact q
    exact fin _ s.toks _ keep (q.mono fun b o e _ => keep b o e)
  · rename_i es ep ha
    subst hsrc
    obtain ⟨des, xs, z, e, d, i, n, m, q, rk⟩ := r.dctK ha
    have hsz : des.size = xs.length := size_of_entries d
    refine wpAny_bind (kdu_collect (A := A.in1) (srcE (es := des) (ep := ep) (r.notSys hsys ha)) hA.hand e (by rw [hsz, sizeLine_is]; omega) fun h' tk acc hk hacc => ?_)
    have rr := keys_reps (h := h') d m (fun x hx => (rk x hx).mono fun b o e _ => hk b o e) hacc
    refine fin h' tk _ hk ?_
    have : (es.map fun e => kv e.1) = (es.map (·.1)).map kv := by simp
    rw [this] at rr
    exact rr
  · exact hsrc.elim

theorem bi_sound {g : Glb} {f : Bi} {vs : List V} {xs : List Value} {k : Nat} (hg : g.ns = W.ns) (hW : WOk W) (hA : Room A k) (r : HR W σ s) (hx : Reps W s.heap vs xs) (h : biP g f vs σ Q) :
    wpAny (model W.prog W.w) A (PySem.call (biV f) xs) (EPost W σ s Q) E s := by
  cases f with
  | len =>
    change lenP g vs σ Q at h
    unfold lenP at h
    split at h
    · obtain ⟨x, rfl, q⟩ := hx.one_inv; exact len_tuple_s r q h
    · obtain ⟨x, rfl, q⟩ := hx.one_inv; cases q.script_inv; exact len_script_s hW r (by rw [← hg]; exact h)
    · obtain ⟨x, rfl, q⟩ := hx.one_inv
      cases q.ref_inv
      split at h
      · rename_i ha; exact len_list_s r ha h
      · rename_i ha; exact len_dct_s hW.sys r ha h
      · exact h.elim
    · exact h.elim
  | min =>
    change minP vs σ Q at h
    unfold minP at h
    split at h
    · obtain ⟨x, y, rfl, q, q'⟩ := hx.two_inv; obtain ⟨t, rfl⟩ := q.int_inv; obtain ⟨u, rfl⟩ := q'.int_inv; exact min2_s hA r h
    · obtain ⟨vs, ns, ⟨ha, hi, hn⟩, h⟩ := h
      obtain ⟨x, rfl, q⟩ := hx.one_inv; cases q.ref_inv; exact minL_s hA r ha hi hn h
    · exact h.elim
  | max =>
    change maxP vs σ Q at h
    unfold maxP at h
    split at h
    · obtain ⟨x, y, rfl, q, q'⟩ := hx.two_inv; obtain ⟨t, rfl⟩ := q.int_inv; obtain ⟨u, rfl⟩ := q'.int_inv; exact max2_s hA r h
    · obtain ⟨vs, ns, ⟨ha, hi, hn⟩, h⟩ := h
      obtain ⟨x, rfl, q⟩ := hx.one_inv; cases q.ref_inv; exact maxL_s hA r ha hi hn h
    · exact h.elim
  | sum =>
    change sumP vs σ Q at h
    unfold sumP at h
    split at h
    · obtain ⟨vs, ns, ⟨ha, hi⟩, h⟩ := h
      obtain ⟨x, rfl, q⟩ := hx.one_inv; cases q.ref_inv; exact sum_s hA r ha hi h
    · exact h.elim
  | int =>
    change intP vs σ Q at h
    unfold intP at h
    split at h
    · obtain ⟨x, rfl, q⟩ := hx.one_inv; cases q.bool_inv; exact PySem.call_int_bool ⟨_, _, h, .int _ _, r.tok _ _⟩
    · exact h.elim
  | isinstance =>
    change isiP vs σ Q at h
    unfold isiP at h
    split at h
    · obtain ⟨hT, b, hb, h⟩ := h
      obtain ⟨x, y, rfl, q, q'⟩ := hx.two_inv; cases q'.typ_inv; exact isi_sound r q hT hb h
    · exact h.elim
  | list =>
    change listP vs σ Q at h
    unfold listP at h
    split at h
    · obtain ⟨x, rfl, q⟩ := hx.one_inv; obtain ⟨a, items, n, rfl, z, e, q⟩ := q.tup_inv; exact list_s r (.inr rfl) z e q h
    · obtain ⟨x, rfl, q⟩ := hx.one_inv
      cases q.ref_inv
      split at h
      · rename_i ha; obtain ⟨items, n, z, e, q⟩ := r.lst ha; exact list_s r (.inl rfl) z e q h
      · rename_i ha; exact list_dct_s hA hW.sys r ha h
      · exact h.elim
    · exact h.elim
  | tuple =>
    change tupleP vs σ Q at h
    unfold tupleP at h
    split at h
    · obtain ⟨vs, ha, h⟩ := h
      obtain ⟨x, rfl, q⟩ := hx.one_inv; cases q.ref_inv; exact tuple_s r ha h
    · exact h.elim
  | sorted =>
    change sortedP vs σ Q at h
    unfold sortedP at h
    split at h
    · obtain ⟨x, rfl, q⟩ := hx.one_inv
      cases q.ref_inv
      obtain ⟨ks, ⟨hsrc, hnd, hlt, hne⟩, h⟩ := h
      exact sorted_s hA hW.sys r hsrc hnd hlt hne h
    · exact h.elim
  | dict => exact h.elim
  | all => exact h.elim
end
end RS

namespace RS
open PySem (Program World Shared Addr Value Obj Heap Str Around wpAny codeAny model Scope NameKind Expr Stmt FuncData cLine recursionLimit sizeLine mainGlobals builtinsNs PyData)

/-- an iterator over items -/
structure Iter (W : Wd) (A : Around) (I : Addr) (vs : List V) (chk : Hp → Prop) (St : Nat → Heap → Prop) : Prop where
  frame : ∀ i h h', St i h → (∀ o, h.get? I = some o → h'.get? I = some o) → TupKeep h h' → St i h'
  it : ∀ i h, St i h → ∃ o, h.get? I = some o ∧ ¬ isTup o
  item : ∀ i (s : Shared) (σ : Hp) (v : V) (Q : Option Value → Shared → Prop) (E : Value → Shared → Prop), vs[i]? = some v → St i s.heap → HR W σ s → chk σ →
    (∀ x h' tk, Rep W h' v x → St (i + 1) h' → PySem.Heap.ExtBut I s.heap h' → Q (some x) { s with heap := h', toks := tk }) → wpAny (model W.prog W.w) A (PySem.pyNext (.ref I)) Q E s
  done : ∀ (s : Shared) (σ : Hp) (Q : Option Value → Shared → Prop) (E : Value → Shared → Prop), St vs.length s.heap → HR W σ s → chk σ →
    (∀ h' tk, PySem.Heap.ExtBut I s.heap h' → Q none { s with heap := h', toks := tk }) → wpAny (model W.prog W.w) A (PySem.pyNext (.ref I)) Q E s
  self : ∀ i (s : Shared) (Q : Value → Shared → Prop) (E : Value → Shared → Prop), St i s.heap → Q (.ref I) s → wpAny (model W.prog W.w) A (PySem.pyIter (.ref I)) Q E s

theorem tups_but {h h' : Heap} {I : Addr} (k : PySem.Heap.ExtBut I h h') (hI : ∃ o, h.get? I = some o ∧ ¬ isTup o) : TupKeep h h' := fun b o e q => k b o (fun hb => by
  subst hb; obtain ⟨o', e', n⟩ := hI; rw [e] at e'; cases e'; exact n q) e

section
variable {W : Wd} {A : Around}

theorem Iter.list (hh : A.handled = none) (I a : Addr) (vs : List V) :
    Iter W A I vs (fun σ => σ a = some (.lst vs)) (fun i h => h.IsListIter I a i) where
  frame i h h' st k _ := st.at k
  it i h st := let ⟨o, e, c, _⟩ := st; ⟨o, e, notTup_cls (by rw [c]; simp)⟩
  item i s σ v Q E hv st r hc hQ := by
    obtain ⟨items, n, z, e, q⟩ := r.lst hc
    obtain ⟨x, hx, rx⟩ := q.get hv
    refine PySem.wpAny_pyNext_list_item st ⟨_, e, rfl, n, rfl⟩ (by simpa using hx) fun h' hit hs => ?_
    obtain ⟨o, eo, co, _⟩ := st
    exact hQ x h' s.toks (rx.mono (tups_but hs.extBut ⟨o, eo, notTup_cls (by rw [co]; simp)⟩)) hit hs.extBut
  done s σ Q E st r hc hQ := by
    obtain ⟨items, n, z, e, q⟩ := r.lst hc
    have hl := q.length; simp only [Array.length_toList] at hl
    exact PySem.wpAny_pyNext_list_end hh st ⟨_, e, rfl, n, rfl⟩ (by rw [hl]; simp) fun h' he => hQ h' s.toks he
  self i s Q E st h := PySem.wpAny_pyIter_listiter st h

theorem Iter.tuple (hh : A.handled = none) (I a : Addr) (vs : List V) :
    Iter W A I vs (fun _ => True) (fun i h => h.IsTupleIter I a i ∧ Rep W h (.tup vs) (.ref a)) where
  frame i h h' st k kt := ⟨let ⟨o, e, r⟩ := st.1; ⟨o, k o e, r⟩, st.2.mono kt⟩
  it i h st := let ⟨⟨o, e, c, _⟩, _⟩ := st; ⟨o, e, notTup_cls (by rw [c]; simp)⟩
  item i s σ v Q E hv st r hc hQ := by
    obtain ⟨a', items, n, ha, z, e, q⟩ := st.2.tup_inv
    cases ha
    obtain ⟨x, hx, rx⟩ := q.get hv
    refine PySem.wpAny_pyNext_tuple_item st.1 ⟨_, e, rfl, n, rfl⟩ (by simpa using hx) fun h' hit hs => ?_
    obtain ⟨⟨o, eo, co, _⟩, _⟩ := id st
    have kt := tups_but hs.extBut ⟨o, eo, notTup_cls (by rw [co]; simp)⟩
    exact hQ x h' s.toks (rx.mono kt) ⟨hit, st.2.mono kt⟩ hs.extBut
  done s σ Q E st r hc hQ := by
    obtain ⟨a', items, n, ha, z, e, q⟩ := st.2.tup_inv
    cases ha
    have hl := q.length; simp only [Array.length_toList] at hl
    exact PySem.wpAny_pyNext_tuple_end hh st.1 ⟨_, e, rfl, n, rfl⟩ (by rw [hl]; simp) fun h' he => hQ h' s.toks he
  self i s Q E st h := PySem.wpAny_pyIter_tupleiter st.1 h

theorem Iter.dct (hh : A.handled = none) (I a : Addr) (es : List (List Int × V)) (ep n : Nat) (hn : n = es.length) :
    Iter W A I (es.map fun e => kv e.1) (fun σ => σ a = some (.dct es ep)) (fun i h => h.IsKeyIter I a i n ep) where
  frame i h h' st k _ := st.at k
  it i h st := let ⟨o, e, c, _⟩ := st; ⟨o, e, notTup_cls (by rw [c]; simp)⟩
  item i s σ v Q E hv st r hc hQ := by
    obtain ⟨des, xs, z, e, d, is, nd, m, q, rk⟩ := r.dctK hc
    have hsz : des.size = xs.length := PySem.size_of_entries d
    have hlen : es.length = xs.length := by have := congrArg List.length m; simpa using this
    have hi : i < xs.length := by
      obtain ⟨h', _⟩ := List.getElem?_eq_some_iff.mp hv
      simp at h'; omega
    have hst : s.heap.IsKeyIter I a i des.size ep := by rw [hsz, ← hlen, ← hn]; exact st
    refine keysE_item hst e (by omega) fun h' hit hs => ?_
    obtain ⟨o, eo, co, _⟩ := st
    have kt := tups_but hs.extBut ⟨o, eo, notTup_cls (by rw [co]; simp)⟩
    have hkey : des[i].key = .ref (xs[i]'hi).2.1 := by
      have h1 : des[i]? = (xs[i]?).map (PySem.entryOfKey (PySem.tupleKind (PySem.intKind W.prog W.w))) := PySem.entry_at d i
      rw [Array.getElem?_eq_getElem (by omega), List.getElem?_eq_getElem hi] at h1
      simp only [Option.map_some, Option.some.injEq] at h1
      rw [h1]; rfl
    have hv' : v = kv (xs[i]'hi).1 := by
      have h1 : (es.map fun e => kv e.1) = xs.map fun x => kv x.1 := by
        have := congrArg (List.map kv) m
        rw [List.map_map, List.map_map] at this
        exact this
      rw [h1, List.getElem?_map, List.getElem?_eq_getElem hi] at hv
      simpa using hv.symm
    rw [hkey]
    refine hQ _ h' s.toks ?_ (by rw [hn, hlen, ← hsz]; exact hit) hs.extBut
    rw [hv']
    exact (rk _ (List.getElem_mem hi)).mono kt
  done s σ Q E st r hc hQ := by
    obtain ⟨des, xs, z, e, d, is, nd, m, q, rk⟩ := r.dctK hc
    have hsz : des.size = xs.length := PySem.size_of_entries d
    have hlen : es.length = xs.length := by have := congrArg List.length m; simpa using this
    have hst : s.heap.IsKeyIter I a (es.map fun e => kv e.1).length des.size ep := by rw [hsz, ← hlen, ← hn]; exact st
    exact keysE_end hh hst e (by simp; omega) fun h' he => hQ h' s.toks he
  self i s Q E st h := PySem.wpAny_pyIter_keyiter st h

theorem rangeL_length (lo hi : Int) : (rangeL lo hi).length = (hi - lo).toNat := by simp [rangeL]
theorem rangeL_get {lo hi : Int} {i : Nat} {v : V} (h : (rangeL lo hi)[i]? = some v) : v = .int (lo + i) ∧ i < (hi - lo).toNat := by
  unfold rangeL at h
  simp only [List.getElem?_map, Option.map_eq_some_iff] at h
  obtain ⟨j, hj, rfl⟩ := h
  obtain ⟨hj', e⟩ := List.getElem?_eq_some_iff.mp hj
  simp at hj' e; subst e; exact ⟨rfl, by omega⟩

theorem Iter.range (hh : A.handled = none) (I : Addr) (lo hi : Int) :
    Iter W A I (rangeL lo hi) (fun _ => True) (fun i h => PySem.IsRangeIter h I (lo + i) (((hi - lo).toNat : Int) - i) 1) where
  frame i h h' st k _ := k _ st
  it i h st := ⟨_, st, notTup_cls (by simp)⟩
  item i s σ v Q E hv st r hc hQ := by
    obtain ⟨rfl, hi'⟩ := rangeL_get hv
    refine PySem.wpAny_pyNext_range_item st (by omega) fun h' hit hs => hQ _ h' _ (.int _ _) ?_ hs.extBut
    have e1 : lo + ((i + 1 : Nat) : Int) = lo + i + 1 := by omega
    have e2 : (((hi - lo).toNat : Int) - ((i + 1 : Nat) : Int)) = ((hi - lo).toNat : Int) - i - 1 := by omega
    rw [e1, e2]; exact hit
  done s σ Q E st r hc hQ := by
    rw [rangeL_length] at st
    exact PySem.wpAny_pyNext_range_end hh st (by omega) fun h' he => hQ h' s.toks he
  self i s Q E st h := PySem.wpAny_pyIter_rangeiter st h
end

/-- what the head of a loop gives -/
noncomputable def SrcAt (W : Wd) (A : Around) (σ : Hp) (s : Shared) (K : SrcP) (it : Value) (s' : Shared) : Prop :=
  ∃ I items chk St σ', it = .ref I ∧ Iter W A I items chk St ∧ St 0 s'.heap ∧ σ' I = none ∧ s.heap.get? I = none ∧ K items chk σ' ∧ Step W [] σ s σ' s'

section
variable {W : Wd} {A : Around} {E : Value → Shared → Prop} {s : Shared} {σ : Hp}

theorem src_sound {v : V} {x : Value} {k : Nat} {K : SrcP} (hA : Room A k) (hsys : W.s₀.heap.get? PySem.sysModules ≠ none) (r : HR W σ s) (hx : Rep W s.heap v x) (h : srcOf v σ K) : wpAny (model W.prog W.w) A (PySem.pyIter x) (SrcAt W A σ s K) E s := by
  unfold srcOf at h
  split at h
  · obtain ⟨a, items, n, rfl, z, e, q⟩ := hx.tup_inv
    refine PySem.wpAny_pyIter_tuple ⟨_, e, rfl, n, rfl⟩ ?_
    have st := r.grow (fun b o e => PySem.Heap.get?_push_of_some { cls := .type "tuple_iterator", data := .fields #[.ref a, .int 0 0] } e) s.toks []
    exact ⟨_, _, _, _, _, rfl, Iter.tuple hA.hand _ a _, ⟨⟨_, PySem.Heap.get?_push_size _ rfl, rfl, rfl⟩, hx.mono (st.tups r (Own.nil _))⟩, r.fresh', size_none _, h, st⟩
  · cases hx.ref_inv
    split at h
    · rename_i a _ vs ha
      obtain ⟨items, n, z, e, q⟩ := r.lst ha
      refine PySem.wpAny_pyIter_list ⟨_, e, rfl, n, rfl⟩ ?_
      have st := r.grow (fun b o e => PySem.Heap.get?_push_of_some { cls := .type "list_iterator", data := .fields #[.ref a, .int 0 0] } e) s.toks []
      exact ⟨_, _, _, _, _, rfl, Iter.list hA.hand _ a _, ⟨_, PySem.Heap.get?_push_size _ rfl, rfl, rfl⟩, r.fresh', size_none _, h, st⟩
    · rename_i a _ es ep ha
      obtain ⟨des, xs, z, e, d, i, n, m, q, rk⟩ := r.dctK ha
      refine keysE_iter (r.notSys hsys ha) e ?_
      have st := r.grow (fun b o e => PySem.Heap.get?_push_of_some { cls := .type "dict_keyiterator", data := .fields #[.ref a, .int 0 0, .int des.size 0, .int ep 0] } e) s.toks []
      exact ⟨_, _, _, _, _, rfl, Iter.dct hA.hand _ a es ep des.size (by rw [PySem.size_of_entries d]; have := congrArg List.length m; simpa using this.symm), ⟨_, PySem.Heap.get?_push_size _ rfl, rfl, rfl⟩, r.fresh', size_none _, h, st⟩
    · exact h.1.elim
    · exact h.elim
  · exact h.elim

end
end RS

namespace RS
open PySem (Program World Shared Addr Value Obj Heap Str Around wpAny codeAny model Scope NameKind Expr Stmt FuncData cLine recursionLimit sizeLine mainGlobals builtinsNs PyData)

/-! ## from the text's trees to the small language -/
abbrev Ks := List (Str × NameKind)
noncomputable def nm (s : Str) : Option String := if Str.ofString s.toString = s then some s.toString else none
theorem nm_is {s : Str} {x : String} (h : nm s = some x) : s = Str.ofString x := by
  unfold nm at h; split at h
  · rename_i e; cases h; exact e.symm
  · cases h
noncomputable def isVar (ks : Ks) (s : Str) : Bool := match ks.lookup s with | some .local | some .cell | some .free => true | _ => false
noncomputable def isGlob (ks : Ks) (s : Str) : Bool := ks.lookup s == some .globalImplicit
noncomputable def bopOf : PySem.Operator → Option Bop
  | .Add => some .add | .Sub => some .sub | .Mult => some .mul | .FloorDiv => some .fdiv | .Mod => some .mod | .Pow => some .pow | _ => none
noncomputable def copOf : PySem.CmpOp → Option Cop
  | .Eq => some .eq | .NotEq => some .ne | .Lt => some .lt | .LtE => some .le | .Gt => some .gt | .GtE => some .ge | .Is => some .is | .IsNot => some .isNot | .In => some .isIn | .NotIn => some .notIn
noncomputable def biOf : String → Option Bi
  | "len" => some .len | "min" => some .min | "max" => some .max | "sum" => some .sum | "int" => some .int | "isinstance" => some .isinstance | "list" => some .list | "tuple" => some .tuple | "dict" => some .dict | "all" => some .all | "sorted" => some .sorted
  | _ => none
noncomputable def meOf (n : Nat) : String → Me
  | "append" => .append | "pop" => if n = 0 then .pop else .popk | "clear" => .clear | "index" => .index | "get" => .get | "update" => .update
  | m => .own m
/-- the base of a method or an attribute: no super() -/
noncomputable def plainBase : Expr → Bool
  | .Name .. | .Attribute .. | .Subscript .. => true
  | _ => false
noncomputable def isSetE : Expr → Bool
  | .Set .. => true
  | _ => false
noncomputable def relabelK (ks names : Ks) : Ks := names.map fun (n, k) => if k == .free && ks.lookup n == some .cell then (n, .cell) else (n, k)
noncomputable def notStar : Expr → Bool
  | .Starred .. => false
  | _ => true

mutual
noncomputable def compE : Nat → Ks → Expr → Option X
  | 0, _, _ => none
  | _ + 1, _, .Constant c _ _ => match c with
    | .none => some .none
    | .bool b => some (.bool b)
    | .int i => some (.num i)
    | .str s => (nm s).map .str
    | _ => none
  | _ + 1, ks, .Name id _ => if id == ("__debug__" : Str) || id == ("__classdict__" : Str) || id == (".0" : Str) then none else if isVar ks id then (nm id).map .var else if isGlob ks id then (nm id).map .glob else none
  | n + 1, ks, .BinOp l op r _ => do return .bin (← bopOf op) (← compE n ks l) (← compE n ks r)
  | n + 1, ks, .UnaryOp op x _ => match op with
    | .USub => (compE n ks x).map .neg
    | .Not => (compE n ks x).map .not
    | _ => none
  | n + 1, ks, .BoolOp op vs _ => if vs.length < 2 then none else (compEs n ks vs).map (.bop (op == .And))
  | n + 1, ks, .Compare l ops cs _ => match ops, cs with
    | [op], [r] => if isSetE r then none else do return .cmp (← compE n ks l) (← copOf op) (← compE n ks r)
    | [op, op2], [r, r2] => if isSetE r || isSetE r2 then none else do return .cmp2 (← compE n ks l) (← copOf op) (← compE n ks r) (← copOf op2) (← compE n ks r2)
    | _, _ => none
  | n + 1, ks, .Call f args kws pos => match f, kws with
    | .Name f _, [] => if f == ("__debug__" : Str) || !isGlob ks f || args.length > 20 then none else do
      let x ← nm f
      let as ← compEs n ks args
      match biOf x with
      | some b => return .bi b as
      | none => if x == "range" then none else return .call x as
    | .Attribute o m apos, [] => if plainBase o && apos.endLine == pos.line && decide (args.length ≤ 20) then do return .meth (← compE n ks o) (meOf args.length (← nm m)) (← compEs n ks args) else none
    | _, _ => none
  | n + 1, ks, .Subscript v sl _ => match sl with
    | .Slice l u none _ => do return .slice (← compE n ks v) (← compO n ks l) (← compO n ks u)
    | .Slice none none (some (.UnaryOp .USub (.Constant (.int 1) _ _) _)) _ => (compE n ks v).map .rev
    | .Slice _ _ _ _ => none
    | i => do return .idx (← compE n ks v) (← compE n ks i)
  | n + 1, ks, .Attribute o a _ => if plainBase o then do return .attr (← compE n ks o) (← nm a) else none
  | n + 1, ks, .Tuple es _ _ => if es.length > 100 then none else (compEs n ks es).map .tup
  | n + 1, ks, .List es _ => if es.length > 100 then none else (compEs n ks es).map .lst
  | n + 1, ks, .Dict keys vals _ => match keys, vals with
    | [], [] => some .emptyDict
    | [some k], [v] => do return .dict1 (← compE n ks k) (← compE n ks v)
    | _, _ => none
  | n + 1, ks, .ListComp elt gens sc _ => match gens with
    | [⟨.Name x _, iter, ifs, 0⟩] =>
      if isSetE iter || !(sc.kind == .function) || !(sc.names.all fun y => y.2 != .cell) || !(sc.names.lookup x == some .local) || !(sc.names.all fun y => y.2 != .local || sc.names.lookup y.1 == some .local)
        || !(sc.names.all fun y => y.2 != .free || ks.lookup y.1 == some .cell) || !(sc.names.all fun y => y.1 == x || y.1 == (".0" : Str) || y.2 != .local) || x == (".0" : Str) || decide (ifs.length > 1) then none else do
      let src ← compSrc n ks iter
      let x' ← nm x
      return .comp (← compE n (relabelK ks sc.names) elt) x' src (← compEs n (relabelK ks sc.names) ifs)
    | _ => none
  | _, _, _ => none
noncomputable def compEs : Nat → Ks → List Expr → Option (List X)
  | 0, _, _ => none
  | _ + 1, _, [] => some []
  | n + 1, ks, e :: es => if notStar e then do return (← compE n ks e) :: (← compEs n ks es) else none
noncomputable def compO : Nat → Ks → Option Expr → Option (Option X)
  | 0, _, _ => none
  | _ + 1, _, none => some none
  | n + 1, ks, some e => (compE n ks e).map some
noncomputable def compSrc : Nat → Ks → Expr → Option Src
  | 0, _, _ => none
  | n + 1, ks, .Call (.Name f p) args kws pos =>
    if f == ("range" : Str) && isGlob ks f then
      match args, kws with
      | [hi], [] => if notStar hi then (compE n ks hi).map .range1 else none
      | [lo, hi], [] => if notStar lo && notStar hi then do return .range2 (← compE n ks lo) (← compE n ks hi) else none
      | _, _ => none
    else (compE n ks (.Call (.Name f p) args kws pos)).map .of
  | n + 1, ks, e => (compE n ks e).map .of
end

noncomputable def isComp : Expr → Bool
  | .ListComp .. | .SetComp .. | .DictComp .. => true
  | _ => false
noncomputable def isTupleE : Expr → Bool
  | .Tuple .. => true
  | _ => false
noncomputable def isOwn (ks : Ks) (s : Str) : Bool := match ks.lookup s with | some .local | some .cell => true | _ => false
noncomputable def isLoc (ks : Ks) (s : Str) : Bool := match ks.lookup s with | some .local => true | _ => false

noncomputable def compT (n : Nat) (ks : Ks) : Expr → Option T
  | .Name x _ => if isOwn ks x then (nm x).map .var else none
  | .Subscript o i _ => match i with
    | .Slice .. => none
    | i => do return .idx (← compE n ks o) (← compE n ks i)
  | _ => none

mutual
noncomputable def compS : Nat → Ks → Stmt → Option S
  | 0, _, _ => none
  | n + 1, ks, .Return (some e) _ => (compE n ks e).map .ret
  | n + 1, ks, .Expr e _ => if isComp e then none else (compE n ks e).map .expr
  | n + 1, ks, .Assign [t] v _ => if isTupleE t && isTupleE v then none else do return .assign (← compT n ks t) (← compE n ks v)
  | n + 1, ks, .If t b o _ => do return .ite (← compE n ks t) (← compSs n ks b) (← compSs n ks o)
  | n + 1, ks, .For (.Name x _) iter b [] _ => if isOwn ks x && !isSetE iter then do return .for_ (← nm x) (← compSrc n ks iter) (← compSs n ks b) else none
  | n + 1, ks, .While t b [] _ => do return .while_ (← compE n ks t) (← compSs n ks b)
  | _ + 1, _, .Pass _ => some .pass
  | _, _, _ => none
noncomputable def compSs : Nat → Ks → List Stmt → Option (List S)
  | 0, _, _ => none
  | _ + 1, _, [] => some []
  | n + 1, ks, s :: ss => do return (← compS n ks s) :: (← compSs n ks ss)
noncomputable def compHs : Nat → Ks → List PySem.ExceptHandler → Option (List (String × Option String × List S))
  | 0, _, _ => none
  | _ + 1, _, [] => some []
  | n + 1, ks, .ExceptHandler (some (.Name c _)) nm? b _ :: hs => if isGlob ks c then do
      let c' ← nm c
      let a ← match nm? with | none => some none | some a => if isLoc ks a then (nm a).map some else none
      return (c', a, ← compSs n ks b) :: (← compHs n ks hs)
    else none
  | _, _, _ => none
end

/-! ## the compiler's lines, one by one -/
theorem no_some {α : Type} {o : Option α} {x : α} (e : o = none) (h : o = some x) : False := by rw [e] at h; cases h
section
variable {n : Nat} {ks : Ks}
theorem cE_Constant (c : PySem.Const) (a : Nat) (b : PySem.Pos) : compE (n + 1) ks (.Constant c a b) = (match c with
    | .none => some .none
    | .bool b => some (.bool b)
    | .int i => some (.num i)
    | .str s => (nm s).map .str
    | _ => none) := rfl
theorem cE_Name (id : Str) (p : PySem.Pos) : compE (n + 1) ks (.Name id p) = (if id == ("__debug__" : Str) || id == ("__classdict__" : Str) || id == (".0" : Str) then none else if isVar ks id then (nm id).map .var else if isGlob ks id then (nm id).map .glob else none) := rfl
theorem cE_BinOp (l : Expr) (op : PySem.Operator) (r : Expr) (p : PySem.Pos) : compE (n + 1) ks (.BinOp l op r p) = (do return .bin (← bopOf op) (← compE n ks l) (← compE n ks r)) := rfl
theorem cE_UnaryOp (op : PySem.UnaryOp) (x : Expr) (p : PySem.Pos) : compE (n + 1) ks (.UnaryOp op x p) = (match op with
    | .USub => (compE n ks x).map .neg
    | .Not => (compE n ks x).map .not
    | _ => none) := rfl
theorem cE_BoolOp (op : PySem.BoolOp) (vs : List Expr) (p : PySem.Pos) : compE (n + 1) ks (.BoolOp op vs p) = (if vs.length < 2 then none else (compEs n ks vs).map (.bop (op == .And))) := rfl
theorem cE_Compare (l : Expr) (ops : List PySem.CmpOp) (cs : List Expr) (p : PySem.Pos) : compE (n + 1) ks (.Compare l ops cs p) = (match ops, cs with
    | [op], [r] => if isSetE r then none else do return .cmp (← compE n ks l) (← copOf op) (← compE n ks r)
    | [op, op2], [r, r2] => if isSetE r || isSetE r2 then none else do return .cmp2 (← compE n ks l) (← copOf op) (← compE n ks r) (← copOf op2) (← compE n ks r2)
    | _, _ => none) := rfl
theorem cE_Call (f : Expr) (args : List Expr) (kws : List PySem.Keyword) (pos : PySem.Pos) : compE (n + 1) ks (.Call f args kws pos) = (match f, kws with
    | .Name f _, [] => if f == ("__debug__" : Str) || !isGlob ks f || args.length > 20 then none else do
      let x ← nm f
      let as ← compEs n ks args
      match biOf x with
      | some b => return .bi b as
      | none => if x == "range" then none else return .call x as
    | .Attribute o m apos, [] => if plainBase o && apos.endLine == pos.line && decide (args.length ≤ 20) then do return .meth (← compE n ks o) (meOf args.length (← nm m)) (← compEs n ks args) else none
    | _, _ => none) := rfl
theorem cE_Subscript (v sl : Expr) (p : PySem.Pos) : compE (n + 1) ks (.Subscript v sl p) = (match sl with
    | .Slice l u none _ => do return .slice (← compE n ks v) (← compO n ks l) (← compO n ks u)
    | .Slice none none (some (.UnaryOp .USub (.Constant (.int 1) _ _) _)) _ => (compE n ks v).map .rev
    | .Slice _ _ _ _ => none
    | i => do return .idx (← compE n ks v) (← compE n ks i)) := rfl
theorem cE_Attribute (o : Expr) (a : Str) (p : PySem.Pos) : compE (n + 1) ks (.Attribute o a p) = (if plainBase o then do return .attr (← compE n ks o) (← nm a) else none) := rfl
theorem cE_Tuple (es : List Expr) (k : Nat) (p : PySem.Pos) : compE (n + 1) ks (.Tuple es k p) = (if es.length > 100 then none else (compEs n ks es).map .tup) := rfl
theorem cE_List (es : List Expr) (p : PySem.Pos) : compE (n + 1) ks (.List es p) = (if es.length > 100 then none else (compEs n ks es).map .lst) := rfl
theorem cE_Dict (keys : List (Option Expr)) (vals : List Expr) (p : PySem.Pos) : compE (n + 1) ks (.Dict keys vals p) = (match keys, vals with
    | [], [] => some .emptyDict
    | [some k], [v] => do return .dict1 (← compE n ks k) (← compE n ks v)
    | _, _ => none) := rfl
theorem cE_ListComp (elt : Expr) (gens : List PySem.Comprehension) (sc : Scope) (p : PySem.Pos) : compE (n + 1) ks (.ListComp elt gens sc p) = (match gens with
    | [⟨.Name x _, iter, ifs, 0⟩] =>
      if isSetE iter || !(sc.kind == .function) || !(sc.names.all fun y => y.2 != .cell) || !(sc.names.lookup x == some .local) || !(sc.names.all fun y => y.2 != .local || sc.names.lookup y.1 == some .local)
        || !(sc.names.all fun y => y.2 != .free || ks.lookup y.1 == some .cell) || !(sc.names.all fun y => y.1 == x || y.1 == (".0" : Str) || y.2 != .local) || x == (".0" : Str) || decide (ifs.length > 1) then none else do
      let src ← compSrc n ks iter
      let x' ← nm x
      return .comp (← compE n (relabelK ks sc.names) elt) x' src (← compEs n (relabelK ks sc.names) ifs)
    | _ => none) := rfl
theorem cSrc_Call (f : Str) (p : PySem.Pos) (args : List Expr) (kws : List PySem.Keyword) (pos : PySem.Pos) : compSrc (n + 1) ks (.Call (.Name f p) args kws pos) = (
    if f == ("range" : Str) && isGlob ks f then
      match args, kws with
      | [hi], [] => if notStar hi then (compE n ks hi).map .range1 else none
      | [lo, hi], [] => if notStar lo && notStar hi then do return .range2 (← compE n ks lo) (← compE n ks hi) else none
      | _, _ => none
    else (compE n ks (.Call (.Name f p) args kws pos)).map .of) := rfl
theorem cEs_zero (es : List Expr) : compEs 0 ks es = none := rfl
theorem cEs_nil : compEs (n + 1) ks [] = some [] := rfl
theorem cEs_cons (e : Expr) (es : List Expr) : compEs (n + 1) ks (e :: es) = (if notStar e then do return (← compE n ks e) :: (← compEs n ks es) else none) := rfl
theorem cO_zero (e : Option Expr) : compO 0 ks e = none := rfl
theorem cO_none : compO (n + 1) ks none = some none := rfl
theorem cO_some (e : Expr) : compO (n + 1) ks (some e) = (compE n ks e).map some := rfl
theorem cSs_zero (ss : List Stmt) : compSs 0 ks ss = none := rfl
theorem cSs_nil : compSs (n + 1) ks [] = some [] := rfl
theorem cSs_cons (s : Stmt) (ss : List Stmt) : compSs (n + 1) ks (s :: ss) = (do return (← compS n ks s) :: (← compSs n ks ss)) := rfl
theorem cS_Return (e : Expr) (p : PySem.Pos) : compS (n + 1) ks (.Return (some e) p) = (compE n ks e).map .ret := rfl
theorem cS_Expr (e : Expr) (p : PySem.Pos) : compS (n + 1) ks (.Expr e p) = (if isComp e then none else (compE n ks e).map .expr) := rfl
theorem cS_Assign (t v : Expr) (p : PySem.Pos) : compS (n + 1) ks (.Assign [t] v p) = (if isTupleE t && isTupleE v then none else do return .assign (← compT n ks t) (← compE n ks v)) := rfl
theorem cS_If (t : Expr) (b o : List Stmt) (p : PySem.Pos) : compS (n + 1) ks (.If t b o p) = (do return .ite (← compE n ks t) (← compSs n ks b) (← compSs n ks o)) := rfl
theorem cS_For (x : Str) (px : PySem.Pos) (iter : Expr) (b : List Stmt) (p : PySem.Pos) : compS (n + 1) ks (.For (.Name x px) iter b [] p) = (if isOwn ks x && !isSetE iter then do return .for_ (← nm x) (← compSrc n ks iter) (← compSs n ks b) else none) := rfl
theorem cS_While (t : Expr) (b : List Stmt) (p : PySem.Pos) : compS (n + 1) ks (.While t b [] p) = (do return .while_ (← compE n ks t) (← compSs n ks b)) := rfl
theorem cS_Pass (p : PySem.Pos) : compS (n + 1) ks (.Pass p) = some .pass := rfl
end
end RS

namespace RS
open PySem (Program World Shared Addr Value Obj Heap Str Around wpAny codeAny model Scope NameKind Expr Stmt FuncData cLine recursionLimit sizeLine mainGlobals builtinsNs PyData)

/-- what is known of the top -/
structure TopOk (W : Wd) : Prop extends WOk W where
  lim : W.s₀.heap.NoLimit
  hg : W.s₀.heap.Ns mainGlobals W.mg
  hb : W.s₀.heap.Ns builtinsNs W.mb
  fnF : ∀ f ∈ W.names, ∃ fa, W.fn f = some fa ∧ W.mg (Str.ofString f) = some (.ref fa) ∧ ∃ o fd, W.s₀.heap.get? fa = some o ∧ o.data = .func fd
  globV : ∀ x v, W.glob x = some v → ∃ y, (W.mg (Str.ofString x) = some y ∨ (W.mg (Str.ofString x) = none ∧ W.mb (Str.ofString x) = some y)) ∧ ∀ h, Rep W h v y
  biB : ∀ x b, biOf x = some b → W.mg (Str.ofString x) = none ∧ W.mb (Str.ofString x) = some (biV b)
  rng : W.mg "range" = none ∧ W.mb "range" = some (.type "range")

/-- a call of the text's own -/
noncomputable def callP (W : Wd) (k : Nat) : CallT := fun f vs σ Q _ => ∃ fa, W.fn f = some fa ∧ ∀ A s xs, Room A k → HR W σ s → Reps W s.heap vs xs →
  codeAny (model W.prog W.w) A (.call (.ref fa) ⟨xs, []⟩) (fun r s' => match r with | .ok (.ret x) => EPost W σ s Q x s' | _ => False) s

noncomputable def glb (W : Wd) (k : Nat) : Glb := ⟨W.ns, W.glob, fun f => decide (f ∈ W.names), callP W k⟩

/-- where a name's value lies -/
noncomputable def VarAt (W : Wd) (env : PySem.Env) (σ : Hp) (h : Heap) (X : Str) (v : V) : Prop :=
  (env.scope.names.lookup X = some .local → ∃ m y, h.Ns env.locals m ∧ m X = some y ∧ Rep W h v y ∧ σ env.locals = none) ∧
  (env.scope.names.lookup X = some .cell ∨ env.scope.names.lookup X = some .free → ∃ c y, env.cells.lookup X = some c ∧ h.IsCell c (some y) ∧ Rep W h v y ∧ σ c = none)

structure EnvR (W : Wd) (env : PySem.Env) (ρ : Env) (σ : Hp) (h : Heap) : Prop where
  kind : env.scope.kind = .function
  glob : env.globals = mainGlobals
  blt : env.builtins = builtinsNs
  var : ∀ x v, ρ x = some v → Str.ofString x ≠ ".0" → VarAt W env σ h (Str.ofString x) v
  cells : ∀ X, env.scope.names.lookup X = some .cell → ∃ c, env.cells.lookup X = some c

theorem EnvR.step {W : Wd} {env : PySem.Env} {ρ : Env} {σ σ' : Hp} {s s' : Shared} (x : EnvR W env ρ σ s.heap) (r : HR W σ s) (st : Step W [] σ s σ' s') : EnvR W env ρ σ' s'.heap where
  kind := x.kind
  glob := x.glob
  blt := x.blt
  cells := x.cells
  var n v e e0 := by
    have kt := st.tups r (Own.nil _)
    refine ⟨fun hl => ?_, fun hc => ?_⟩
    · obtain ⟨m, y, ⟨o, es, ep, ho, q⟩, hm, hr, hs⟩ := (x.var n v e e0).1 hl
      obtain ⟨ho', hs'⟩ := st.keep _ _ ho hs (by simp)
      exact ⟨m, y, ⟨o, es, ep, ho', q⟩, hm, hr.mono kt, hs'⟩
    · obtain ⟨c, y, hl, ⟨o, ho, hd⟩, hr, hs⟩ := (x.var n v e e0).2 hc
      obtain ⟨ho', hs'⟩ := st.keep _ _ ho hs (by simp)
      exact ⟨c, y, hl, ⟨o, ho', hd⟩, hr.mono kt, hs'⟩

section
variable {W : Wd} {A : Around} {E : Value → Shared → Prop} {s : Shared} {σ : Hp} {Q : VP} {env : PySem.Env} {ρ : Env}

theorem ld_glob {X : Str} {y : Value} {P : Value → Shared → Prop} (T : TopOk W) (r : HR W σ s) (x : EnvR W env ρ σ s.heap) (hx : isGlob env.scope.names X = true) (hy : W.mg X = some y ∨ (W.mg X = none ∧ W.mb X = some y)) (h : P y s) :
    wpAny (model W.prog W.w) A (PySem.loadName env X) P E s := by
  have hx' : env.kindOf X = some .globalImplicit := by simpa [isGlob, PySem.Env.kindOf] using hx
  rw [PyProof.Rows.loadName_read x.kind hx']
  have hg : s.heap.Ns env.globals W.mg := by rw [x.glob]; exact T.hg.keeps fun b o e => (r.base b o e).1
  have hb : s.heap.Ns env.builtins W.mb := by rw [x.blt]; exact T.hb.keeps fun b o e => (r.base b o e).1
  unfold PySem.loadGlobal
  refine PySem.wpAny_bind (PySem.wpAny_nsGet hg ?_)
  rcases hy with hy | ⟨h0, hy⟩
  · rw [hy]; exact PySem.wpAny_pure h
  · rw [h0]
    refine PySem.wpAny_bind (PySem.wpAny_nsGet hb ?_)
    rw [hy]; exact PySem.wpAny_pure h

theorem ld_var {x : String} {v : V} (R : EnvR W env ρ σ s.heap) (r : HR W σ s) (hx : isVar env.scope.names (Str.ofString x) = true) (hcd : (Str.ofString x == ("__classdict__" : Str)) = false) (h0 : Str.ofString x ≠ ".0") (hv : ρ x = some v) (h : Q v σ) :
    wpAny (model W.prog W.w) A (PySem.loadName env (Str.ofString x)) (EPost W σ s Q) E s := by
  have V := R.var x v hv h0
  cases hk : env.scope.names.lookup (Str.ofString x) with
  | none => simp [isVar, hk] at hx
  | some kd =>
    cases kd with
    | «local» =>
      obtain ⟨m, y, hn, hm, hr, _⟩ := V.1 hk
      exact PySem.wpAny_loadName_local R.kind hk hn hm ⟨_, _, h, hr, .refl r⟩
    | cell =>
      obtain ⟨c, y, hl, hc, hr, _⟩ := V.2 (.inl hk)
      exact PySem.wpAny_loadName_cell R.kind hk hl hc ⟨_, _, h, hr, .refl r⟩
    | free =>
      obtain ⟨c, y, hl, hc, hr, _⟩ := V.2 (.inr hk)
      exact PySem.wpAny_loadName_free R.kind hk hl hc ⟨_, _, h, hr, .refl r⟩ hcd
    | _ => simp [isVar, hk] at hx

theorem truthy_sound {v : V} {x : Value} {b : Bool} {P : Bool → Shared → Prop} {h : Heap} (hx : Rep W h v x) (ht : truth v = some b) (hp : P b s) : wpAny (model W.prog W.w) A (PySem.truthy x) P E s := by
  cases hx <;> simp only [truth, Option.some.injEq, reduceCtorEq] at ht <;> subst ht
  · exact PyProof.Rows.truthy_none hp
  · exact PySem.wpAny_truthy_bool hp
  · exact PyProof.Rows.truthy_int hp

end
end RS

namespace RS
open PySem (Program World Shared Addr Value Obj Heap Str Around wpAny codeAny model Scope NameKind Expr Stmt FuncData cLine recursionLimit sizeLine mainGlobals builtinsNs PyData)

noncomputable def XF : Value → Shared → Prop := fun _ _ => False

noncomputable def LPost (W : Wd) (σ : Hp) (s : Shared) (m : Nat) (Q : List V → Hp → Prop) : List Value → Shared → Prop := fun xs s' => ∃ vs σ', Q vs σ' ∧ Reps W s'.heap vs xs ∧ Step W [] σ s σ' s' ∧ xs.length = m

/-- the transformer is sound for an expression's tree -/
noncomputable def SE (W : Wd) (k n : Nat) : Prop := ∀ ks e x, compE n ks e = some x → ∀ A env ρ σ s Q X, Room A k → env.scope.names = ks → EnvR W env ρ σ s.heap → HR W σ s → wpE (glb W k) x ρ σ Q X →
  wpAny (model W.prog W.w) A (PySem.eval e env) (EPost W σ s Q) XF s
noncomputable def SEs (W : Wd) (k n : Nat) : Prop := ∀ ks es xs, compEs n ks es = some xs → ∀ A env ρ σ s Q X (pos : PySem.Pos), Room A k → env.scope.names = ks → EnvR W env ρ σ s.heap → HR W σ s → wpEs (glb W k) xs ρ σ Q X →
  wpAny (model W.prog W.w) A (PySem.spliced (PySem.backTo pos (PySem.starEach es env))) (LPost W σ s es.length Q) XF s
/-- and for its truth -/
noncomputable def STr (W : Wd) (k n : Nat) : Prop := ∀ ks e x, compE n ks e = some x → ∀ A env ρ σ s (P : VP) X, Room A k → env.scope.names = ks → EnvR W env ρ σ s.heap → HR W σ s → wpE (glb W k) x ρ σ P X → (∀ v σ', P v σ' → (truth v).isSome = true) →
  wpAny (model W.prog W.w) A (PySem.isTrue e env (PySem.eval e env)) (fun b s' => ∃ v σ', P v σ' ∧ truth v = some b ∧ Step W [] σ s σ' s') XF s

theorem EPost.trans {W : Wd} {σ σ' : Hp} {s s' : Shared} {Q : VP} (st : Step W [] σ s σ' s') {x : Value} {s'' : Shared} (h : EPost W σ' s' Q x s'') : EPost W σ s Q x s'' :=
  let ⟨v, τ, hq, hr, st'⟩ := h; ⟨v, τ, hq, hr, st.trans st'⟩

section
variable {W : Wd} {k n : Nat}

theorem starEach_cons {e : Expr} (es : List Expr) (env : PySem.Env) (h : notStar e = true) : PySem.starEach (e :: es) env = (false, PySem.eval e env) :: PySem.starEach es env := by
  cases e <;> first | rfl | (simp [notStar] at h)

theorem sEs_of (IE : ∀ m, m < n → SE W k m) : SEs W k n := by
  induction n with
  | zero => intro ks es xs h; simp [cEs_zero, cEs_nil, cEs_cons] at h
  | succ n ih =>
    intro ks es xs h A env ρ σ s Q X pos hA hks R r hw
    cases es with
    | nil =>
      simp only [cEs_zero, cEs_nil, cEs_cons, Option.some.injEq] at h; subst h
      exact PySem.Calls.spliced_nil ⟨[], σ, hw, .nil, .refl r, rfl⟩
    | cons e es =>
      simp only [cEs_zero, cEs_nil, cEs_cons] at h
      split at h
      · rename_i hs
        simp only [Option.bind_eq_bind, Option.bind_eq_some_iff, Option.pure_def, Option.some.injEq] at h
        obtain ⟨x, hx, xs', hxs, rfl⟩ := h
        rw [starEach_cons es env hs]
        refine PySem.Calls.spliced_cons (PySem.wpAny_mono (IE n (Nat.lt_succ_self n) ks e x hx A env ρ σ s _ X hA hks R r hw) (fun y s₁ h₁ => ?_) fun _ _ q => q)
        obtain ⟨v, σ₁, hw₁, hr, st⟩ := h₁
        refine PySem.wpAny_mono (ih (fun m hm => IE m (by omega)) ks es xs' hxs A env ρ σ₁ s₁ _ X pos hA hks (R.step r st) st.hr hw₁) (fun ys s₂ h₂ => ?_) fun _ _ q => q
        obtain ⟨vs, σ₂, hq, hrs, st₂, hl⟩ := h₂
        exact ⟨v :: vs, σ₂, hq, .cons (hr.mono (st₂.tups st.hr (Own.nil _))) hrs, st.trans st₂, by simp [hl]⟩
      · cases h

theorem beh_of {op : PySem.CmpOp} {e : Expr} (h : isSetE e = false) : PySem.behindInMarks op e = false := by
  cases e <;> first | rfl | (simp [isSetE] at h)


/-- and, or -/
theorem sBop (IE : ∀ m, m < n → SE W k m) (isAnd : Bool) (pos : PySem.Pos) : ∀ (vs : List Expr) (m : Nat), m ≤ n → ∀ ks xs, compEs m ks vs = some xs → ∀ A env ρ σ s Q X, Room A k → env.scope.names = ks → EnvR W env ρ σ s.heap → HR W σ s → wpBop (glb W k) isAnd xs ρ σ Q X →
    wpAny (model W.prog W.w) A (PySem.eval (.BoolOp (if isAnd then .And else .Or) vs pos) env) (EPost W σ s Q) XF s := by
  intro vs
  induction vs with
  | nil =>
    intro m hm ks xs h A env ρ σ s Q X hA hks R r hw
    cases m <;> simp only [cEs_zero, cEs_nil, cEs_cons, Option.some.injEq, reduceCtorEq] at h
    subst h; exact hw.elim
  | cons e es ih =>
    intro m hm ks xs h A env ρ σ s Q X hA hks R r hw
    cases m with
    | zero => simp [cEs_zero, cEs_nil, cEs_cons] at h
    | succ m =>
      simp only [cEs_zero, cEs_nil, cEs_cons] at h
      split at h
      · simp only [Option.bind_eq_bind, Option.bind_eq_some_iff, Option.pure_def, Option.some.injEq] at h
        obtain ⟨x, hx, xs', hxs, rfl⟩ := h
        cases es with
        | nil =>
          cases m <;> simp only [cEs_zero, cEs_nil, cEs_cons, Option.some.injEq, reduceCtorEq] at hxs
          subst hxs
          refine PyProof.Rows.BoolOp_one ?_
          exact IE _ (by omega) ks e x hx A env ρ σ s Q X hA hks R r hw
        | cons e₂ rest =>
          have hne : ∃ x₂ r₂, xs' = x₂ :: r₂ := by
            cases m with
            | zero => simp [cEs_zero, cEs_nil, cEs_cons] at hxs
            | succ m =>
              simp only [cEs_zero, cEs_nil, cEs_cons] at hxs
              split at hxs
              · simp only [Option.bind_eq_bind, Option.bind_eq_some_iff, Option.pure_def, Option.some.injEq] at hxs
                obtain ⟨x₂, _, r₂, _, rfl⟩ := hxs
                exact ⟨_, _, rfl⟩
              · cases hxs
          obtain ⟨x₂, r₂, rfl⟩ := hne
          have hw' : wpE (glb W k) x ρ σ (fun v σ₁ => ∃ b, truth v = some b ∧ if b = isAnd then wpBop (glb W k) isAnd (x₂ :: r₂) ρ σ₁ Q X else Q v σ₁) X := hw
          have H := IE m (by omega) ks e x hx A env ρ σ s _ X hA hks R r hw'
          cases isAnd with
          | true =>
            refine PyProof.Rows.BoolOp_and (PySem.wpAny_mono H (fun y s₁ h₁ => ?_) fun _ _ q => q)
            obtain ⟨v, σ₁, ⟨b, hb, hq⟩, rv, st⟩ := h₁
            refine truthy_sound rv hb ?_
            cases b with
            | true => exact PySem.wpAny_mono (ih m (by omega) ks _ hxs A env ρ σ₁ s₁ Q X hA hks (R.step r st) st.hr hq) (fun _ _ q => EPost.trans st q) fun _ _ q => q
            | false => exact ⟨v, σ₁, hq, rv, st⟩
          | false =>
            refine PyProof.Rows.BoolOp_or (PySem.wpAny_mono H (fun y s₁ h₁ => ?_) fun _ _ q => q)
            obtain ⟨v, σ₁, ⟨b, hb, hq⟩, rv, st⟩ := h₁
            refine truthy_sound rv hb ?_
            cases b with
            | false => exact PySem.wpAny_mono (ih m (by omega) ks _ hxs A env ρ σ₁ s₁ Q X hA hks (R.step r st) st.hr hq) (fun _ _ q => EPost.trans st q) fun _ _ q => q
            | true => exact ⟨v, σ₁, hq, rv, st⟩
      · cases h

theorem opC {op : PySem.CmpOp} {o : Cop} (h : copOf op = some o) : op = cmpOf o := by cases op <;> simp [copOf] at h <;> subst h <;> rfl

theorem compEs_star : ∀ {es : List Expr} {n : Nat} {ks : Ks} {xs : List X}, compEs n ks es = some xs → ∀ e ∈ es, notStar e = true
  | [], _, _, _, _, e, he => by cases he
  | e :: es, n, ks, xs, h, e', he => by
    cases n with
    | zero => simp [cEs_zero, cEs_nil, cEs_cons] at h
    | succ n =>
      simp only [cEs_zero, cEs_nil, cEs_cons] at h
      split at h
      · rename_i hs
        simp only [Option.bind_eq_bind, Option.bind_eq_some_iff, Option.pure_def, Option.some.injEq] at h
        obtain ⟨x, hx, xs', hxs, rfl⟩ := h
        rcases List.mem_cons.mp he with rfl | he
        · exact hs
        · exact compEs_star hxs e' he
      · cases h
theorem stars {env : PySem.Env} {pos : PySem.Pos} : ∀ {es : List Expr}, (∀ e ∈ es, notStar e = true) → (PySem.backTo pos (PySem.starEach es env)).any (·.1) = false
  | [], _ => rfl
  | e :: es, h => by
    rw [starEach_cons es env (h e (by simp))]
    show (false || (PySem.backTo pos (PySem.starEach es env)).any (·.1)) = false
    rw [stars fun e' he => h e' (by simp [he])]; rfl
theorem evalArgs_s {M : PySem.Model} {A : Around} {E : Value → Shared → Prop} {s : Shared} {env : PySem.Env} {pos : PySem.Pos} {f : Value} {es : List Expr} {P : PySem.Args → Shared → Prop} (hs : ∀ e ∈ es, notStar e = true)
    (h : wpAny M A (PySem.spliced (PySem.backTo pos (PySem.starEach es env))) (fun vs s' => P ⟨vs, []⟩ s') E s) : wpAny M A (PySem.evalArgs f true (PySem.backTo pos (PySem.starEach es env)) []) P E s := by
  cases es with
  | nil => exact fun Γ p hΓ => PyProof.Rows.evalArgs_empty (h Γ p hΓ) Γ p hΓ
  | cons e es =>
    rw [starEach_cons es env (hs e (by simp))] at h ⊢
    exact PySem.Calls.evalArgs_plain h

theorem subs_any (slice : Expr) (x y : Value) : ∃ ops, PySem.subscripted slice false x y = PySem.operate ops (PySem.getItem x y) := by
  unfold PySem.subscripted
  split <;> first | exact ⟨_, rfl⟩ | (rename_i h; cases h)

theorem RepO.mono {W : Wd} {h h' : Heap} (k : TupKeep h h') {o : Option V} {x : Value} (r : RepO W h o x) : RepO W h' o x := by
  cases o with
  | none => exact r
  | some v => exact Rep.mono k r

theorem sO_of (IE : ∀ m, m < n → SE W k m) : ∀ ks o x, compO n ks o = some x → ∀ A env ρ σ s (Q : Option V → Hp → Prop) X, Room A k → env.scope.names = ks → EnvR W env ρ σ s.heap → HR W σ s → wpO (glb W k) x ρ σ Q X →
    wpAny (model W.prog W.w) A (PySem.evalPart o env) (fun y s' => ∃ v σ', Q v σ' ∧ RepO W s'.heap v y ∧ Step W [] σ s σ' s') XF s := by
  intro ks o x h A env ρ σ s Q X hA hks R r hw
  cases n with
  | zero => simp [cO_zero, cO_none, cO_some] at h
  | succ n =>
    cases o with
    | none =>
      simp only [cO_zero, cO_none, cO_some, Option.some.injEq] at h; subst h
      exact PySem.wpAny_pure ⟨none, σ, hw, rfl, .refl r⟩
    | some e =>
      simp only [cO_zero, cO_none, cO_some, Option.map_eq_some_iff] at h
      obtain ⟨x', hx', rfl⟩ := h
      exact PySem.wpAny_mono (IE n (Nat.lt_succ_self n) ks e x' hx' A env ρ σ s _ X hA hks R r hw) (fun y s₁ ⟨v, σ₁, hq, rv, st⟩ => ⟨some v, σ₁, hq, rv, st⟩) fun _ _ q => q

/-- an item by a place or a key -/
theorem sIdx (T : TopOk W) (I0 : SE W k n) {v sl : Expr} {pos : PySem.Pos} {ks : Ks} {xv xi : X} (hv : compE n ks v = some xv) (hi : compE n ks sl = some xi) {A : Around} {env : PySem.Env} {ρ : Env} {σ : Hp} {s : Shared} {Q : VP} {X : XP} (hA : Room A k) (hks : env.scope.names = ks) (R : EnvR W env ρ σ s.heap) (r : HR W σ s)
    (hw : wpE (glb W k) (.idx xv xi) ρ σ Q X) : wpAny (model W.prog W.w) A (PySem.eval (.Subscript v sl pos) env) (EPost W σ s Q) XF s := by
  refine PyProof.Rows.Subscript_ (PySem.wpAny_mono (I0 ks v xv hv A env ρ σ s _ X hA hks R r hw) (fun a s₁ h₁ => ?_) fun _ _ q => q)
  obtain ⟨o, σ₁, hw₁, rv, st⟩ := h₁
  refine PySem.wpAny_mono (I0 ks sl xi hi A env ρ σ₁ s₁ _ X hA hks (R.step r st) st.hr hw₁) (fun b s₂ h₂ => ?_) fun _ _ q => q
  obtain ⟨w, σ₂, hw₂, rw', st₂⟩ := h₂
  exact PySem.wpAny_mono (idx_sound rfl T.toWOk hA st₂.hr (rv.mono (st₂.tups st.hr (Own.nil _))) rw' hw₂ (subs_any _ _ _)) (fun _ _ q => EPost.trans (st.trans st₂) q) fun _ _ q => q

/-! ### methods -/
theorem meth_eval {o : Expr} {m : Str} {apos pos : PySem.Pos} {args : List Expr} {env : PySem.Env} (hb : plainBase o = true) (hp : (apos.endLine == pos.line) = true) (hs : ∀ e ∈ args, notStar e = true) (hl : args.length ≤ 20) :
    PySem.eval (.Call (.Attribute o m apos) args [] pos) env = (do
      let ov ← PySem.eval o env
      PySem.standAt apos.atName
      let (f, first) ← PySem.holding [ov] (PySem.getMethod ov m (do return (← PySem.importBound o env).getD true))
      PySem.callWith pos f first (PySem.backTo pos (PySem.starEach args env)) []) := by
  have hbase : PySem.attributeBase o m env (PySem.eval o env) = PySem.eval o env := by cases o <;> first | rfl | (simp [plainBase] at hb)
  have hform : PySem.methodCallForm (args.length + ([] : List PySem.Keyword).length) (PySem.backTo pos (PySem.starEach args env)) (PySem.backToKw pos (PySem.keywordEach [] env)) = true := by
    unfold PySem.methodCallForm
    have h1 : (PySem.backTo pos (PySem.starEach args env)).all (fun x => !x.1) = true := by
      have := stars (env := env) (pos := pos) hs
      rw [List.any_eq_false] at this
      rw [List.all_eq_true]
      intro x hx; simpa using this x hx
    rw [h1]
    simp only [PySem.keywordEach, PySem.backToKw, List.map_nil, List.all_nil, Bool.true_and, List.length_nil, List.isEmpty_nil, if_true, decide_eq_true_eq]
    omega
  show (do
    let ov ← PySem.attributeBase o m env (PySem.eval o env)
    PySem.standAt apos.atName
    PySem.methodCall o m apos pos env ov (args.length + ([] : List PySem.Keyword).length) (PySem.backTo pos (PySem.starEach args env)) (PySem.backToKw pos (PySem.keywordEach [] env))) = _
  rw [hbase]
  unfold PySem.methodCall PySem.calleeOf PySem.methodCallPos
  rw [hform]
  simp only [if_true, Bool.not_true, Bool.false_or, hp, pure_bind]
  rfl

section
variable {A : Around} {E : Value → Shared → Prop} {s : Shared} {σ : Hp} {Q : VP}
theorem getMethod_lst {a : Addr} {vs : List V} {name : Str} {id : String} {pl : PySem.Sem Bool} {P : Value × List Value → Shared → Prop} (slot : PySem.Slot "list" name id) (hty : PySem.typeOf (.builtin id) = pure (.type "method_descriptor")) (r : HR W σ s) (ha : σ a = some (.lst vs)) (h : P (.builtin id, [.ref a]) s) :
    wpAny (model W.prog W.w) A (PySem.getMethod (.ref a) name pl) P E s := by
  obtain ⟨items, n, z, e, q⟩ := r.lst ha
  exact PyProof.Rows.getMethod_list_of slot hty ⟨_, e, rfl, n, rfl⟩ ⟨_, e, rfl⟩ h
end

theorem mapSeq_get {h : Heap} {a : Addr} {items : Array Value} {n : Nat} (f : Array Value → Array Value) (e : h.get? a = some { cls := .type "list", data := .seq items n }) :
    ∃ n', (h.update a (PySem.Obj.mapSeq f)).get? a = some { cls := .type "list", data := .seq (f items) n' } := ⟨_, PySem.Heap.get?_update_self _ e rfl⟩

section
variable {A : Around} {E : Value → Shared → Prop} {s s₁ : Shared} {σ σ₁ : Hp} {Q : VP}

/-- a list is changed -/
theorem lst_upd {a : Addr} {vs ws : List V} {ys : List Value} {n : Nat} {items : Array Value} (r : HR W σ s) (ha : σ a = some (.lst vs)) (e : s.heap.get? a = some { cls := .type "list", data := .seq items n }) (f : Array Value → Array Value) (hf : (f items).toList = ys) (hl : ys.length ≤ 1000001) (q : Reps W s.heap ws ys) (tk : Nat) :
    Step W [] σ s (σ.set a (.lst ws)) { s with heap := s.heap.update a (PySem.Obj.mapSeq f), toks := tk } := by
  obtain ⟨n', e'⟩ := mapSeq_get f e
  have kx := (PySem.Heap.SameBut.update s.heap a (PySem.Obj.mapSeq f)).extBut
  refine r.upd ha kx (.lst (by rw [← Array.length_toList, hf]; exact hl) e' ?_) tk []
  rw [hf]
  exact q.mono (tups_but kx ⟨_, e, notTup_cls (by simp)⟩)

theorem pop_s {a : Addr} {vs : List V} {v : V} {pos : PySem.Pos} (r : HR W σ s) (ha : σ a = some (.lst vs)) (hv : vs.getLast? = some v) (hq : Q v (σ.set a (.lst vs.dropLast))) :
    wpAny (model W.prog W.w) A (PySem.callWith pos (.builtin "list.pop") [.ref a] [] []) (EPost W σ s Q) E s := by
  obtain ⟨items, n, z, e, q⟩ := r.lst ha
  have hle := q.length; simp only [Array.length_toList] at hle
  have hne : vs.length ≠ 0 := fun h0 => by rw [List.eq_nil_of_length_eq_zero h0] at hv; simp at hv
  have hv' : vs[items.size - 1]? = some v := by rw [← hle]; rw [List.getLast?_eq_getElem?] at hv; exact hv
  obtain ⟨y, hy, ry⟩ := q.get hv'
  have ed : (items.eraseIdxIfInBounds (items.size - 1)).toList = items.toList.dropLast := by
    unfold Array.eraseIdxIfInBounds
    rw [dif_pos (by omega), Array.toList_eraseIdx, List.eraseIdx_eq_dropLast]
    simp; omega
  have st : Step W [] σ s (σ.set a (.lst vs.dropLast)) { s with heap := s.heap.update a (PySem.Obj.mapSeq fun xs => xs.eraseIdxIfInBounds (items.size - 1)), toks := s.toks } := by
    refine lst_upd r ha e _ ed (by simp; omega) ?_ s.toks
    have := q.take (vs.length - 1)
    rw [List.dropLast_eq_take, List.dropLast_eq_take]
    have e2 : items.toList.length = vs.length := by simp [hle]
    rw [e2]; exact this
  exact PySem.P.pop_list e (by simpa using hy) ⟨_, _, hq, ry.mono (st.tups r (Own.nil _)), st⟩ (by rw [sizeLine_is]; omega)
theorem clear_s {a : Addr} {vs : List V} {pos : PySem.Pos} (r : HR W σ s) (ha : σ a = some (.lst vs)) (hq : Q .none (σ.set a (.lst []))) :
    wpAny (model W.prog W.w) A (PySem.callWith pos (.builtin "list.clear") [.ref a] [] []) (EPost W σ s Q) E s := by
  obtain ⟨items, n, z, e, q⟩ := r.lst ha
  exact PySem.P.clear_list e ⟨_, _, hq, .none, lst_upd r ha e _ rfl (by simp) .nil s.toks⟩ (by rw [sizeLine_is]; omega)
end

end
end RS

namespace RS
open PySem (Program World Shared Addr Value Obj Heap Str Around wpAny codeAny model Scope NameKind Expr Stmt FuncData cLine recursionLimit sizeLine mainGlobals builtinsNs PyData)

section
variable {W : Wd} {k n : Nat}

theorem SrcAt.trans {A : Around} {σ σ' : Hp} {s s' : Shared} {K : SrcP} (st : Step W [] σ s σ' s') {it : Value} {s'' : Shared} (h : SrcAt W A σ' s' K it s'') : SrcAt W A σ s K it s'' := by
  obtain ⟨I, items, chk, St, τ, e, i, s0, t0, hn, hK, st'⟩ := h
  refine ⟨I, items, chk, St, τ, e, i, s0, t0, ?_, hK, st.trans st'⟩
  cases q : s.heap.get? I with
  | none => rfl
  | some o => obtain ⟨o', e', _⟩ := st.live I o q; rw [hn] at e'; cases e'

theorem Iter.longrange {A : Around} (hh : A.handled = none) (I : Addr) (lo hi : Int) :
    Iter W A I (rangeL lo hi) (fun _ => True) (fun i h => PySem.IsLongIter h I (lo + i) (((hi - lo).toNat : Int) - i) 1) where
  frame i h h' st k _ := k _ st
  it i h st := ⟨_, st, notTup_cls (by simp)⟩
  item i s σ v Q E hv st r hc hQ := by
    obtain ⟨rfl, hi'⟩ := rangeL_get hv
    refine PySem.wpAny_pyNext_long_item st (by omega) fun h' hit hs => hQ _ h' _ (.int _ _) ?_ hs.extBut
    have e1 : lo + ((i + 1 : Nat) : Int) = lo + i + 1 := by omega
    have e2 : (((hi - lo).toNat : Int) - ((i + 1 : Nat) : Int)) = ((hi - lo).toNat : Int) - i - 1 := by omega
    rw [e1, e2]; exact hit
  done s σ Q E st r hc hQ := by
    rw [rangeL_length] at st
    exact PySem.wpAny_pyNext_long_end hh st (by omega) fun h' he => hQ h' s.toks he
  self i s Q E st h := PySem.wpAny_pyIter_longiter st h

theorem range_any {A : Around} {E : Value → Shared → Prop} {s : Shared} {σ : Hp} {lo hi : Int} {t u r₀ : Nat} {x : Nat} {K : SrcP} (hA : Room A k) (r : HR W σ s) (hr : PySem.IsRange s.heap x lo hi 1 t u r₀) (h : lenOk (hi - lo).toNat) (hK : K (rangeL lo hi) (fun _ => True) σ) :
    wpAny (model W.prog W.w) A (PySem.pyIter (.ref x)) (SrcAt W A σ s K) E s := by
  have hsz : PySem.Builtin.Range.rangeSize lo hi 1 = ((hi - lo).toNat : Int) := by
    unfold PySem.Builtin.Range.rangeSize; rw [if_pos (by omega)]; split <;> omega
  cases hs : PySem.Builtin.Range.small lo hi 1 with
  | true =>
    refine PySem.wpAny_pyIter_range hr hs ?_
    rw [hsz]
    have st := r.grow (fun b o e => PySem.Heap.get?_push_of_some { cls := .type "range_iterator", data := .fields #[PySem.rawInt lo, PySem.rawInt ((hi - lo).toNat : Int), PySem.rawInt 1] } e) s.toks []
    refine ⟨_, _, _, _, _, rfl, Iter.range hA.hand _ lo hi, ?_, r.fresh', size_none _, hK, st⟩
    have := PySem.Heap.get?_push_size s.heap (o := { cls := .type "range_iterator", data := .fields #[PySem.rawInt lo, PySem.rawInt ((hi - lo).toNat : Int), PySem.rawInt 1] }) rfl
    simpa using this
  | false =>
    refine PySem.wpAny_pyIter_longrange hr hs ?_
    rw [hsz]
    have st := r.grow (fun b o e => PySem.Heap.get?_push_of_some { cls := .type "longrange_iterator", data := .fields #[PySem.rawInt lo, PySem.rawInt ((hi - lo).toNat : Int), PySem.rawInt 1] } e) s.toks []
    refine ⟨_, _, _, _, _, rfl, Iter.longrange hA.hand _ lo hi, ?_, r.fresh', size_none _, hK, st⟩
    have := PySem.Heap.get?_push_size s.heap (o := { cls := .type "longrange_iterator", data := .fields #[PySem.rawInt lo, PySem.rawInt ((hi - lo).toNat : Int), PySem.rawInt 1] }) rfl
    simpa using this

theorem compSrc_inv {ks : Ks} {e : Expr} {x : Src} (h : compSrc (n + 1) ks e = some x) :
    (∃ x', compE n ks e = some x' ∧ x = .of x') ∨
    (∃ p hi pos xh, e = .Call (.Name ("range" : Str) p) [hi] [] pos ∧ isGlob ks ("range" : Str) = true ∧ notStar hi = true ∧ compE n ks hi = some xh ∧ x = .range1 xh) ∨
    (∃ p lo hi pos xl xh, e = .Call (.Name ("range" : Str) p) [lo, hi] [] pos ∧ isGlob ks ("range" : Str) = true ∧ notStar lo = true ∧ notStar hi = true ∧ compE n ks lo = some xl ∧ compE n ks hi = some xh ∧ x = .range2 xl xh) := by
  have gen : ∀ e : Expr, Option.map Src.of (compE n ks e) = some x → ∃ x', compE n ks e = some x' ∧ x = .of x' := by
    intro e h
    simp only [Option.map_eq_some_iff] at h
    obtain ⟨x', h1, h2⟩ := h
    exact ⟨x', h1, h2.symm⟩
  cases e with
  | Call f args kws pos =>
    cases f with
    | Name f p =>
      rw [cSrc_Call] at h
      split at h
      · rename_i hf
        simp only [Bool.and_eq_true, beq_iff_eq] at hf
        obtain ⟨rfl, hg⟩ := hf
        split at h
        · rename_i hi
          by_cases hs : notStar hi = true
          · rw [if_pos hs] at h
            simp only [Option.map_eq_some_iff] at h
            obtain ⟨xh, hh, rfl⟩ := h
            exact .inr (.inl ⟨p, hi, pos, xh, rfl, hg, hs, hh, rfl⟩)
          · rw [if_neg hs] at h; cases h
        · rename_i lo hi
          by_cases hs : (notStar lo && notStar hi) = true
          · rw [if_pos hs] at h
            simp only [Bool.and_eq_true] at hs
            simp only [Option.bind_eq_bind, Option.bind_eq_some_iff, Option.pure_def, Option.some.injEq] at h
            obtain ⟨xl, hl, xh, hh, rfl⟩ := h
            exact .inr (.inr ⟨p, lo, hi, pos, xl, xh, rfl, hg, hs.1, hs.2, hl, hh, rfl⟩)
          · rw [if_neg hs] at h; cases h
        · cases h
      · exact .inl (gen _ h)
    | _ => exact .inl (gen _ h)
  | _ => exact .inl (gen _ h)

/-- the head of a loop -/
noncomputable def SSrc (W : Wd) (k n : Nat) : Prop := ∀ ks e x, compSrc n ks e = some x → ∀ A env ρ σ s K X, Room A k → env.scope.names = ks → EnvR W env ρ σ s.heap → HR W σ s → wpSrc (glb W k) x ρ σ K X →
  wpAny (model W.prog W.w) A (PySem.eval e env) (fun xv s₁ => wpAny (model W.prog W.w) A (PySem.pyIter xv) (SrcAt W A σ s K) XF s₁) XF s

theorem sSrc_of (T : TopOk W) (IE : ∀ m, m < n → SE W k m) : SSrc W k n := by
  intro ks e x h A env ρ σ s K X hA hks R r hw
  cases n with
  | zero => exact (no_some rfl h).elim
  | succ n =>
    have I0 : SE W k n := IE n (Nat.lt_succ_self n)
    rcases compSrc_inv h with ⟨x', hx', rfl⟩ | ⟨p, hi, pos, xh, rfl, hg, hs, hh, rfl⟩ | ⟨p, lo, hi, pos, xl, xh, rfl, hg, hs1, hs2, hl, hh, rfl⟩
    · refine PySem.wpAny_mono (I0 ks e x' hx' A env ρ σ s _ X hA hks R r hw) (fun y s₁ h₁ => ?_) fun _ _ q => q
      obtain ⟨v, σ₁, hw₁, rv, st⟩ := h₁
      exact PySem.wpAny_mono (src_sound hA T.sys st.hr rv hw₁) (fun _ _ q => SrcAt.trans st q) fun _ _ q => q
    · subst hks
      refine PySem.wpAny_Call_NameR (PySem.wpAny_Name (ld_glob T r R hg (.inr T.rng) ?_) (by decide))
      rw [starEach_cons [] env hs]
      refine PySem.callWith_type rfl ?_
      refine PySem.Calls.evalArgs_plain (PySem.Calls.spliced_cons (PySem.wpAny_mono (I0 _ hi xh hh A env ρ σ s _ X hA rfl R r hw) (fun y s₁ h₁ => PySem.Calls.spliced_nil ?_) fun _ _ q => q))
      obtain ⟨v, σ₁, hw₁, rv, st⟩ := h₁
      cases v <;> (try exact hw₁.elim)
      rename_i b
      obtain ⟨hl, hK⟩ := hw₁
      obtain ⟨t, rfl⟩ := rv.int_inv
      refine PySem.call_range_1 ?_
      have st₂ := st.hr.grow (fun c o e => PySem.Heap.get?_push_of_some { cls := .type "range", data := .fields #[.int 0 s₁.toks, .int b t, .int 1 (s₁.toks + 1)] } e) (s₁.toks + 1 + 1) []
      exact PySem.wpAny_mono (range_any hA st₂.hr (PySem.Heap.get?_push_size _ rfl) hl hK) (fun _ _ q => SrcAt.trans (st.trans st₂) q) fun _ _ q => q
    · subst hks
      refine PySem.wpAny_Call_NameR (PySem.wpAny_Name (ld_glob T r R hg (.inr T.rng) ?_) (by decide))
      rw [starEach_cons [hi] env hs1, starEach_cons [] env hs2]
      refine PySem.callWith_type rfl ?_
      refine PySem.Calls.evalArgs_plain (PySem.Calls.spliced_cons (PySem.wpAny_mono (I0 _ lo xl hl A env ρ σ s _ X hA rfl R r hw) (fun y s₁ h₁ => ?_) fun _ _ q => q))
      obtain ⟨v, σ₁, hw₁, rv, st⟩ := h₁
      refine PySem.Calls.spliced_cons (PySem.wpAny_mono (I0 _ hi xh hh A env ρ σ₁ s₁ _ X hA rfl (R.step r st) st.hr hw₁) (fun y' s₂ h₂ => PySem.Calls.spliced_nil ?_) fun _ _ q => q)
      obtain ⟨v', σ₂, hw₂, rv', st'⟩ := h₂
      cases v <;> (try exact hw₂.elim)
      cases v' <;> (try exact hw₂.elim)
      rename_i a b
      obtain ⟨hl, hK⟩ := hw₂
      obtain ⟨t, rfl⟩ := rv.int_inv
      obtain ⟨u, rfl⟩ := rv'.int_inv
      refine PySem.call_range_2 ?_
      have st₂ := st'.hr.grow (fun c o e => PySem.Heap.get?_push_of_some { cls := .type "range", data := .fields #[.int a t, .int b u, .int 1 s₂.toks] } e) (s₂.toks + 1) []
      exact PySem.wpAny_mono (range_any hA st₂.hr (PySem.Heap.get?_push_size _ rfl) hl hK) (fun _ _ q => SrcAt.trans ((st.trans st').trans st₂) q) fun _ _ q => q
end
end RS

namespace RS
open PySem (Program World Shared Addr Value Obj Heap Str Around wpAny codeAny model Scope NameKind Expr Stmt FuncData cLine recursionLimit sizeLine mainGlobals builtinsNs PyData)

/-! ### comprehensions -/
noncomputable def clOf (env : PySem.Env) : Ks → List (Str × Addr) → List (Str × Addr)
  | [], acc => acc
  | (n, k) :: r, acc => if k == .free then clOf env r ((n, (env.cells.lookup n).getD 0) :: acc) else clOf env r acc

theorem clOf_is (env : PySem.Env) (sc : Scope) (h : ∀ y ∈ sc.names, y.2 = .free → ∃ c, env.cells.lookup y.1 = some c) : PySem.closureFor sc env = pure (clOf env sc.names []) := by
  unfold PySem.closureFor
  suffices H : ∀ (names : Ks) (acc : List (Str × Addr)), (∀ y ∈ names, y.2 = .free → ∃ c, env.cells.lookup y.1 = some c) →
      (forIn names acc fun x r => match x with | (name, kind) => do
        if (kind == NameKind.free) = true then do
          let c ← PySem.cellOf env name
          pure (ForInStep.yield ((name, c) :: r))
        else pure (ForInStep.yield r) : PySem.Sem (List (Str × Addr))) = pure (clOf env names acc) by
    have := H sc.names [] h
    simpa using this
  intro names
  induction names with
  | nil => intro acc _; rfl
  | cons y names ih =>
    intro acc hy
    obtain ⟨n, kd⟩ := y
    rw [List.forIn_cons]
    by_cases hk : (kd == NameKind.free) = true
    · obtain ⟨c, hc⟩ := hy (n, kd) (by simp) (by simpa using hk)
      simp only at hc
      have hcell : PySem.cellOf env n = pure c := by unfold PySem.cellOf; rw [hc]
      simp only [hk, if_true, hcell, pure_bind]
      rw [ih _ fun y hy' => hy y (by simp [hy'])]
      simp [clOf, hk, hc]
    · have hk' : (kd == NameKind.free) = false := by simpa using hk
      simp only [hk', Bool.false_eq_true, if_false, pure_bind]
      rw [ih _ fun y hy' => hy y (by simp [hy'])]
      simp [clOf, hk']

theorem clOf_lookup (env : PySem.Env) : ∀ (names : Ks) (acc : List (Str × Addr)), (∀ y ∈ names, y.2 = .free → ∃ c, env.cells.lookup y.1 = some c) → (∀ X c, acc.lookup X = some c → env.cells.lookup X = some c) →
    (∀ X c, (clOf env names acc).lookup X = some c → env.cells.lookup X = some c) ∧ (∀ X, (X, NameKind.free) ∈ names ∨ (acc.lookup X).isSome = true → ((clOf env names acc).lookup X).isSome = true)
  | [], acc, _, ha => ⟨ha, fun X h => h.elim (fun h => by cases h) id⟩
  | (n, kd) :: r, acc, hy, ha => by
    unfold clOf
    by_cases hk : (kd == NameKind.free) = true
    · obtain ⟨c, hc⟩ := hy (n, kd) (by simp) (by simpa using hk)
      simp only at hc
      rw [if_pos hk]
      have ih := clOf_lookup env r ((n, (env.cells.lookup n).getD 0) :: acc) (fun y hy' => hy y (by simp [hy'])) (fun X c' hX => by
        rw [List.lookup_cons] at hX
        split at hX
        · rename_i hXn
          cases hX; rw [eq_of_beq hXn, hc]; rfl
        · exact ha X c' hX)
      refine ⟨ih.1, fun X hX => ih.2 X ?_⟩
      by_cases hXn : X = n
      · subst hXn; right; simp [List.lookup_cons]
      · rcases hX with hX | hX
        · rcases List.mem_cons.mp hX with h | h
          · cases h; exact absurd rfl hXn
          · exact .inl h
        · right
          have hb : (X == n) = false := by simpa using hXn
          rw [List.lookup_cons, hb]; exact hX
    · rw [if_neg hk]
      have ih := clOf_lookup env r acc (fun y hy' => hy y (by simp [hy'])) ha
      refine ⟨ih.1, fun X hX => ih.2 X ?_⟩
      rcases hX with hX | hX
      · rcases List.mem_cons.mp hX with h | h
        · cases h; exact absurd rfl hk
        · exact .inl h
      · exact .inr hX

section
variable {W : Wd} {k n : Nat}

/-- from a state on with more objects: those that were not there may change -/
theorem Step.shrink {own : List Addr} {σ σ' : Hp} {s s₁ s' : Shared} (g : Step W [] σ s σ s₁) (x : Step W own σ s₁ σ' s') (hn : ∀ b ∈ own, s.heap.get? b = none) : Step W [] σ s σ' s' where
  hr := x.hr
  keep b o e h _ := by
    obtain ⟨e₁, h₁⟩ := g.keep b o e h (by simp)
    exact x.keep b o e₁ h₁ fun hb => by rw [hn b hb] at e; cases e
  live b o e := by
    obtain ⟨o₁, e₁, k₁⟩ := g.live b o e
    obtain ⟨o₂, e₂, k₂⟩ := x.live b o₁ e₁
    exact ⟨o₂, e₂, fun t => k₂ (k₁ t)⟩
  mine b hb := by cases hb
end
end RS

namespace RS
open PySem (Program World Shared Addr Value Obj Heap Str Around wpAny codeAny model Scope NameKind Expr Stmt FuncData cLine recursionLimit sizeLine mainGlobals builtinsNs PyData)

/-! ### truth of an expression -/
section
variable {W : Wd} {k n : Nat}

noncomputable def TPost (W : Wd) (σ : Hp) (s : Shared) (P : VP) : Bool → Shared → Prop := fun b s' => ∃ v σ', P v σ' ∧ truth v = some b ∧ Step W [] σ s σ' s'

theorem TPost.trans {W : Wd} {σ σ' : Hp} {s s' : Shared} {P : VP} (st : Step W [] σ s σ' s') {b : Bool} {s'' : Shared} (h : TPost W σ' s' P b s'') : TPost W σ s P b s'' :=
  let ⟨v, τ, hp, ht, st'⟩ := h; ⟨v, τ, hp, ht, st.trans st'⟩

theorem sBopT (IT : ∀ m, m < n → STr W k m) (isAnd : Bool) (pos : PySem.Pos) (whole : PySem.Sem Value) : ∀ (vs : List Expr) (m : Nat), m ≤ n → ∀ ks xs, compEs m ks vs = some xs → ∀ A env ρ σ s (P : VP) X, Room A k → env.scope.names = ks → EnvR W env ρ σ s.heap → HR W σ s → wpBop (glb W k) isAnd xs ρ σ P X → (∀ v σ', P v σ' → (truth v).isSome = true) →
    wpAny (model W.prog W.w) A (PySem.isTrue (.BoolOp (if isAnd then .And else .Or) vs pos) env whole) (TPost W σ s P) XF s := by
  intro vs
  induction vs with
  | nil =>
    intro m hm ks xs h A env ρ σ s Q X hA hks R r hw
    cases m <;> simp only [cEs_zero, cEs_nil, cEs_cons, Option.some.injEq, reduceCtorEq] at h
    subst h; exact hw.elim
  | cons e es ih =>
    intro m hm ks xs h A env ρ σ s P X hA hks R r hw hP
    cases m with
    | zero => simp [cEs_zero, cEs_nil, cEs_cons] at h
    | succ m =>
      simp only [cEs_zero, cEs_nil, cEs_cons] at h
      split at h
      · simp only [Option.bind_eq_bind, Option.bind_eq_some_iff, Option.pure_def, Option.some.injEq] at h
        obtain ⟨x, hx, xs', hxs, rfl⟩ := h
        cases es with
        | nil =>
          cases m <;> simp only [cEs_zero, cEs_nil, cEs_cons, Option.some.injEq, reduceCtorEq] at hxs
          subst hxs
          have H := IT _ (by omega) ks e x hx A env ρ σ s P X hA hks R r hw hP
          cases isAnd with
          | true =>
            refine PyProof.Rows.isTrue_and (PySem.wpAny_mono H (fun b s₁ h₁ => ?_) fun _ _ q => q)
            cases b with
            | true => exact PyProof.Rows.isTrue_and_nil h₁
            | false => exact h₁
          | false =>
            refine PyProof.Rows.isTrue_or (PySem.wpAny_mono H (fun b s₁ h₁ => ?_) fun _ _ q => q)
            cases b with
            | true => exact h₁
            | false => exact PyProof.Rows.isTrue_or_nil h₁
        | cons e₂ rest =>
          have hne : ∃ x₂ r₂, xs' = x₂ :: r₂ := by
            cases m with
            | zero => simp [cEs_zero, cEs_nil, cEs_cons] at hxs
            | succ m =>
              simp only [cEs_zero, cEs_nil, cEs_cons] at hxs
              split at hxs
              · simp only [Option.bind_eq_bind, Option.bind_eq_some_iff, Option.pure_def, Option.some.injEq] at hxs
                obtain ⟨x₂, _, r₂, _, rfl⟩ := hxs
                exact ⟨_, _, rfl⟩
              · cases hxs
          obtain ⟨x₂, r₂, rfl⟩ := hne
          have hw' : wpE (glb W k) x ρ σ (fun v σ₁ => ∃ b, truth v = some b ∧ if b = isAnd then wpBop (glb W k) isAnd (x₂ :: r₂) ρ σ₁ P X else P v σ₁) X := hw
          have H := IT m (by omega) ks e x hx A env ρ σ s _ X hA hks R r hw' fun v σ' ⟨b, hb, _⟩ => by rw [hb]; rfl
          cases isAnd with
          | true =>
            refine PyProof.Rows.isTrue_and (PySem.wpAny_mono H (fun c s₁ h₁ => ?_) fun _ _ q => q)
            obtain ⟨v, σ₁, ⟨b, hb, hq⟩, hc, st⟩ := h₁
            obtain rfl : b = c := by rw [hb] at hc; exact Option.some.inj hc
            cases b with
            | true => exact PySem.wpAny_mono (ih m (by omega) ks _ hxs A env ρ σ₁ s₁ P X hA hks (R.step r st) st.hr hq hP) (fun _ _ q => TPost.trans st q) fun _ _ q => q
            | false => exact ⟨v, σ₁, hq, hb, st⟩
          | false =>
            refine PyProof.Rows.isTrue_or (PySem.wpAny_mono H (fun c s₁ h₁ => ?_) fun _ _ q => q)
            obtain ⟨v, σ₁, ⟨b, hb, hq⟩, hc, st⟩ := h₁
            obtain rfl : b = c := by rw [hb] at hc; exact Option.some.inj hc
            cases b with
            | false => exact PySem.wpAny_mono (ih m (by omega) ks _ hxs A env ρ σ₁ s₁ P X hA hks (R.step r st) st.hr hq hP) (fun _ _ q => TPost.trans st q) fun _ _ q => q
            | true => exact ⟨v, σ₁, hq, hb, st⟩
      · cases h

theorem sT_step (T : TopOk W) (IE : ∀ m, m ≤ n → SE W k m) (IT : ∀ m, m < n → STr W k m) : STr W k n := by
  intro ks e x h A env ρ σ s P X hA hks R r hw hP
  cases n with
  | zero => exact (no_some rfl h).elim
  | succ n =>
  have plain : (PySem.isTrue e env (PySem.eval e env) = (do let v ← PySem.eval e env; PySem.standAt e.pos; PySem.holding [v] (PySem.truthy v))) → wpAny (model W.prog W.w) A (PySem.isTrue e env (PySem.eval e env)) (TPost W σ s P) XF s := by
    intro he
    refine PyProof.Rows.isTrue_plain (PySem.wpAny_mono (IE _ (Nat.le_refl _) ks e x h A env ρ σ s P X hA hks R r hw) (fun y s₁ h₁ => ?_) fun _ _ q => q) he
    obtain ⟨v, σ₁, hq, rv, st⟩ := h₁
    obtain ⟨b, hb⟩ := Option.isSome_iff_exists.mp (hP v σ₁ hq)
    exact truthy_sound rv hb ⟨v, σ₁, hq, hb, st⟩
  cases e with
  | UnaryOp op a pos =>
    cases op with
    | Not =>
      simp only [cE_UnaryOp, Option.map_eq_some_iff] at h
      obtain ⟨xa, ha, rfl⟩ := h
      have hw' : wpE (glb W k) xa ρ σ (fun v σ₁ => ∃ b, truth v = some b ∧ P (.bool (!b)) σ₁) X := hw
      refine PyProof.Rows.isTrue_not (PySem.wpAny_mono (IT n (Nat.lt_succ_self n) ks a xa ha A env ρ σ s _ X hA hks R r hw' fun v σ' ⟨b, hb, _⟩ => by rw [hb]; rfl) (fun c s₁ h₁ => ?_) fun _ _ q => q)
      obtain ⟨v, σ₁, ⟨b, hb, hq⟩, hc, st⟩ := h₁
      obtain rfl : b = c := by rw [hb] at hc; exact Option.some.inj hc
      exact ⟨_, σ₁, hq, rfl, st⟩
    | _ => exact plain rfl
  | BoolOp op vs pos =>
    rw [cE_BoolOp] at h
    split at h
    · cases h
    · simp only [Option.map_eq_some_iff] at h
      obtain ⟨xs, hxs, rfl⟩ := h
      have := sBopT (n := n) (fun m hm => IT m (by omega)) (op == .And) pos (PySem.eval (.BoolOp op vs pos) env) vs n (Nat.le_refl n) ks xs hxs A env ρ σ s P X hA hks R r hw hP
      cases op <;> exact this
  | Compare l ops cs pos =>
    have I0 := IE n (Nat.le_succ n)
    rw [cE_Compare] at h
    split at h
    · rename_i op rr
      split at h
      · cases h
      · rename_i hset
        simp only [Option.bind_eq_bind, Option.bind_eq_some_iff, Option.pure_def, Option.some.injEq] at h
        obtain ⟨xl, hl, o, ho, xr, hr, rfl⟩ := h
        rw [opC ho]
        rw [PySem.isTrue_Compare1]
        have hm : PySem.markedBehindIn (cmpOf o) rr (PySem.eval rr env) = PySem.eval rr env := by unfold PySem.markedBehindIn; rw [beh_of (by simpa using hset)]
        rw [hm]
        refine PySem.wpAny_bind (PySem.wpAny_mono (I0 ks l xl hl A env ρ σ s _ X hA hks R r hw) (fun a s₁ h₁ => PySem.wpAny_bind (PySem.wpAny_holding ?_)) fun _ _ q => q)
        obtain ⟨v, σ₁, hw₁, rv, st⟩ := h₁
        refine PySem.wpAny_mono (I0 ks rr xr hr A env ρ σ₁ s₁ _ X hA hks (R.step r st) st.hr hw₁) (fun b s₂ h₂ => PySem.wpAny_bind (PySem.wpAny_standAt (PySem.wpAny_bind (PyProof.Rows.wpAny_operate' ?_)))) fun _ _ q => q
        obtain ⟨w, σ₂, hw₂, rw', st₂⟩ := h₂
        exact cmp_sound T.toWOk hA st₂.hr (rv.mono (st₂.tups st.hr (Own.nil _))) rw' hw₂ fun b tk hb => PySem.wpAny_holding (PySem.wpAny_truthy_bool ⟨_, _, hb, rfl, (st.trans st₂).trans (st₂.hr.tok _ _)⟩)
    · rename_i op op2 rr r2
      split at h
      · cases h
      · rename_i hset
        simp only [Bool.or_eq_true, not_or, Bool.not_eq_true] at hset
        simp only [Option.bind_eq_bind, Option.bind_eq_some_iff, Option.pure_def, Option.some.injEq] at h
        obtain ⟨xl, hl, o, ho, xr, hr, o2, ho2, xr2, hr2, rfl⟩ := h
        rw [opC ho, opC ho2]
        refine PyProof.Rows.isTrue_chain (rs := []) (ops := []) (PySem.wpAny_mono (I0 ks l xl hl A env ρ σ s _ X hA hks R r hw) (fun a s₁ h₁ => ?_) fun _ _ q => q) (beh_of hset.2)
        obtain ⟨v, σ₁, hw₁, rv, st⟩ := h₁
        refine PyProof.Rows.test_link (PySem.wpAny_mono (I0 ks rr xr hr A env ρ σ₁ s₁ _ X hA hks (R.step r st) st.hr hw₁) (fun b s₂ h₂ => ?_) fun _ _ q => q)
        obtain ⟨w, σ₂, hw₂, rw', st₂⟩ := h₂
        refine cmp_sound T.toWOk hA st₂.hr (rv.mono (st₂.tups st.hr (Own.nil _))) rw' hw₂ fun c tk hc => PySem.wpAny_truthy_bool ?_
        have st3 := (st.trans st₂).trans (st₂.hr.tok tk [])
        cases c with
        | false => exact ⟨_, _, by simpa using hc, rfl, st3⟩
        | true =>
          simp only [if_true] at hc ⊢
          refine PyProof.Rows.test_last (PySem.wpAny_mono (I0 ks r2 xr2 hr2 A env ρ σ₂ _ _ X hA hks (R.step r st3) st3.hr hc) (fun b' s₃ h₃ => ?_) fun _ _ q => q)
          obtain ⟨u, σ₃, hw₃, ru, st4⟩ := h₃
          exact cmp_sound T.toWOk hA st4.hr (rw'.mono (st4.tups st3.hr (Own.nil _))) ru hw₃ fun b tk hb => PySem.wpAny_truthy_bool ⟨_, _, hb, rfl, (st3.trans st4).trans (st4.hr.tok _ _)⟩
    · cases h
  | IfExp a b c pos => exact (no_some rfl h).elim
  | _ => exact plain rfl
end
end RS

namespace RS
open PySem (Program World Shared Addr Value Obj Heap Str Around wpAny codeAny model Scope NameKind Expr Stmt FuncData cLine recursionLimit sizeLine mainGlobals builtinsNs PyData)

section
variable {W : Wd} {k n : Nat}

/-- an object that was not there is changed -/
theorem Step.over {σ σ' : Hp} {s s' : Shared} {C : Addr} {h' : Heap} (g : Step W [] σ s σ' s') (r : HR W σ s) (hn : s.heap.get? C = none) (hσ : σ' C = none) (hC : ∃ o, s'.heap.get? C = some o ∧ ¬ isTup o) (k : PySem.Heap.ExtBut C s'.heap h') (tk : Nat) :
    Step W [] σ s σ' { s' with heap := h', toks := tk } := by
  have ne : ∀ b o, s.heap.get? b = some o → b ≠ C := fun b o e q => by subst q; rw [hn] at e; cases e
  have kt := tups_but k hC
  refine ⟨⟨g.hr.at h' tk, fun b o e => ⟨k b o (ne b o (r.base b o e).1) (g.hr.base b o e).1, (g.hr.base b o e).2⟩, fun a c hc => (g.hr.cell a c hc).mono kt fun o e => k a o (fun q => by subst q; rw [hσ] at hc; cases hc) e⟩, fun b o e h hb => ?_, fun b o e => ?_, fun b hb => by cases hb⟩
  · obtain ⟨e', h'⟩ := g.keep b o e h hb; exact ⟨k b o (ne b o e) e', h'⟩
  · obtain ⟨o', e', q⟩ := g.live b o e; exact ⟨o', k b o' (ne b o e) e', q⟩
/-- an object that was not there becomes one of the abstract heap -/
theorem Step.add {σ σ' : Hp} {s s' : Shared} {D : Addr} {c : Cell} (g : Step W [] σ s σ' s') (r : HR W σ s) (hn : s.heap.get? D = none) (hc : CellR W s'.heap D c) : Step W [] σ s (σ'.set D c) s' := by
  have ne : ∀ b o, s.heap.get? b = some o → b ≠ D := fun b o e q => by subst q; rw [hn] at e; cases e
  refine ⟨⟨g.hr.same, fun b o e => ⟨(g.hr.base b o e).1, ?_⟩, fun a d hd => ?_⟩, fun b o e h hb => ?_, g.live, fun b hb => by cases hb⟩
  · rw [Hp.set_ne _ _ (ne b o (r.base b o e).1)]; exact (g.hr.base b o e).2
  · by_cases hb : a = D
    · subst hb; rw [Hp.set_same] at hd; cases hd; exact hc
    · rw [Hp.set_ne _ _ hb] at hd; exact g.hr.cell a d hd
  · obtain ⟨e', h'⟩ := g.keep b o e h hb; exact ⟨e', by rw [Hp.set_ne _ _ (ne b o e)]; exact h'⟩

theorem folded_id {e : Expr} (env : PySem.Env) (h : isSetE e = false) (x : Value) : PySem.foldedSetIterable e env x = pure x := by
  cases e <;> first | rfl | (simp [isSetE] at h)

theorem relabel_is (sc : Scope) (env : PySem.Env) (hk : env.scope.kind = .function) : (PySem.relabel sc env).names = relabelK env.scope.names sc.names := by
  unfold PySem.relabel relabelK PySem.Env.kindOf
  simp [hk]

theorem relabelK_lookup (ks : Ks) : ∀ (names : Ks) (X : Str) (kd : NameKind), (relabelK ks names).lookup X = some kd → ∃ kd', names.lookup X = some kd' ∧ (X, kd') ∈ names ∧ kd = (if kd' == .free && ks.lookup X == some .cell then .cell else kd')
  | [], _, _, h => by simp [relabelK] at h
  | (y, q) :: r, X, kd, h => by
    have hh : ((if (q == NameKind.free && ks.lookup y == some .cell) = true then (y, NameKind.cell) else (y, q)) :: relabelK ks r).lookup X = some kd := h
    have hsplit : (if (q == NameKind.free && ks.lookup y == some .cell) = true then (y, NameKind.cell) else (y, q)) = (y, if (q == NameKind.free && ks.lookup y == some .cell) = true then NameKind.cell else q) := by split <;> rfl
    rw [hsplit, List.lookup_cons] at hh
    by_cases hX : X = y
    · subst hX
      simp only [beq_self_eq_true, Option.some.injEq] at hh
      exact ⟨q, by simp [List.lookup_cons], by simp, hh.symm⟩
    · have hb : (X == y) = false := by simpa using hX
      rw [hb] at hh
      obtain ⟨kd', h1, h2, h3⟩ := relabelK_lookup ks r X kd hh
      exact ⟨kd', by rw [List.lookup_cons, hb]; exact h1, by simp [h2], h3⟩

/-- what the scope of a comprehension must be -/
structure CompSc (ks : Ks) (sc : Scope) (x : Str) : Prop where
  kind : sc.kind = .function
  nocell : ∀ y ∈ sc.names, y.2 ≠ .cell
  loc : sc.names.lookup x = some .local
  locs : ∀ y ∈ sc.names, y.2 = .local → sc.names.lookup y.1 = some .local
  free : ∀ y ∈ sc.names, y.2 = .free → ks.lookup y.1 = some .cell
  only : ∀ y ∈ sc.names, y.2 = .local → y.1 = x ∨ y.1 = ".0"
  ne0 : x ≠ ".0"

theorem EnvR.comp {env : PySem.Env} {ρ : Env} {σ : Hp} {h : Heap} {sc : Scope} {x : String} {v : V} {y : Value} {C : Addr} {m : Str → Option Value} (R : EnvR W env ρ σ h) (cs : CompSc env.scope.names sc (Str.ofString x))
    (hn : h.Ns C m) (hm : m (Str.ofString x) = some y) (hv : Rep W h v y) (hσ : σ C = none) : EnvR W (PySem.compEnvC sc (clOf env sc.names []) C env) (ρ.set x v) σ h := by
  have cells : ∀ z ∈ sc.names, z.2 = .free → ∃ c, env.cells.lookup z.1 = some c := fun z hz hf => R.cells _ (cs.free z hz hf)
  obtain ⟨cl1, cl2⟩ := clOf_lookup env sc.names [] cells (fun _ _ e => by cases e)
  have names : (PySem.compEnvC sc (clOf env sc.names []) C env).scope.names = relabelK env.scope.names sc.names := relabel_is sc env R.kind
  have kindOf : ∀ X kd, (relabelK env.scope.names sc.names).lookup X = some kd → kd = .cell ∨ kd = .free → (X, NameKind.free) ∈ sc.names ∧ env.scope.names.lookup X = some .cell := by
    intro X kd e hk
    obtain ⟨kd', h1, h2, h3⟩ := relabelK_lookup _ _ _ _ e
    have hf : kd' = .free := by
      by_cases hq : kd' = .free
      · exact hq
      · have hb : (kd' == NameKind.free) = false := by simpa using hq
        rw [hb] at h3; simp only [Bool.false_and, Bool.false_eq_true, if_false] at h3
        rcases hk with hk | hk
        · exact absurd (h3.symm.trans hk) (cs.nocell _ h2)
        · exact h3.symm.trans hk
    subst hf
    exact ⟨h2, cs.free _ h2 rfl⟩
  refine ⟨cs.kind, R.glob, R.blt, fun z u hz h0 => ⟨fun hl => ?_, fun hc => ?_⟩, fun X hX => ?_⟩
  · rw [names] at hl
    obtain ⟨kd', h1, h2, h3⟩ := relabelK_lookup _ _ _ _ hl
    have hkd : kd' = .local := by
      by_cases hq : (kd' == NameKind.free && env.scope.names.lookup (Str.ofString z) == some .cell) = true
      · rw [if_pos hq] at h3; cases h3
      · rw [if_neg hq] at h3; exact h3.symm
    subst hkd
    rcases cs.only _ h2 rfl with he | he
    · have hzx : z = x := Str.ofString_inj he
      subst hzx
      rw [Env.set_same] at hz; cases hz
      exact ⟨m, y, hn, hm, hv, hσ⟩
    · exact absurd he h0
  · rw [names] at hc
    have hk : (Str.ofString z, NameKind.free) ∈ sc.names ∧ env.scope.names.lookup (Str.ofString z) = some .cell := by
      rcases hc with hc | hc
      · exact kindOf _ _ hc (.inl rfl)
      · exact kindOf _ _ hc (.inr rfl)
    have hzx : z ≠ x := fun q => by
      subst q
      have hl := cs.loc
      rcases hc with hc | hc <;>
      · obtain ⟨kd', h1, h2, h3⟩ := relabelK_lookup _ _ _ _ hc
        rw [hl] at h1; cases h1
        simp at h3
    rw [Env.set_ne _ _ hzx] at hz
    obtain ⟨c, y', hl, hcell, hr, hs⟩ := (R.var z u hz h0).2 (.inl hk.2)
    refine ⟨c, y', ?_, hcell, hr, hs⟩
    have hsome := cl2 _ (.inl hk.1)
    obtain ⟨c', hc'⟩ := Option.isSome_iff_exists.mp hsome
    have := cl1 _ _ hc'
    rw [hl] at this; cases this; exact hc'
  · rw [names] at hX
    exact Option.isSome_iff_exists.mp (cl2 _ (.inl (kindOf _ _ hX (.inl rfl)).1))

/-- once the loop of a comprehension has ended -/
noncomputable def CompEnd (W : Wd) (σ : Hp) (s : Shared) (K : List V → Hp → Prop) (D C : Addr) (s' : Shared) : Prop :=
  ∃ vs σ' items n m, K vs σ' ∧ Step W [] σ s σ' s' ∧ items.size ≤ 1000001 ∧ s'.heap.get? D = some { cls := .type "list", data := .seq items n } ∧ Reps W s'.heap vs items.toList ∧ s'.heap.Ns C m ∧ s.heap.get? D = none ∧ s.heap.get? C = none ∧ D ≠ C ∧ σ' D = none ∧ σ' C = none

theorem ns_notTup {h : Heap} {C : Addr} {m : Str → Option Value} (hn : h.Ns C m) : ∃ o, h.get? C = some o ∧ ¬ isTup o := let ⟨o, _, _, ho, hd, _⟩ := hn; ⟨o, ho, notTup_dict hd⟩

theorem compLoop_sound (IE : SE W k n) (IT : ∀ m, m ≤ n → STr W k m) {elt iter : Expr} {x : String} {px : PySem.Pos} {ifs : List Expr} {sc : Scope} {pos : PySem.Pos} {ks : Ks} {xe : X} {xifs : List RS.X} {A : Around} {env : PySem.Env} {ρ : Env} {σ : Hp} {s : Shared} {K : List V → Hp → Prop} {X : XP}
    {I D C : Addr} {items : List V} {chk : Hp → Prop} {St : Nat → Heap → Prop} {RR : PySem.Result → Shared → Prop}
    (hce : compE n (relabelK ks sc.names) elt = some xe) (hci : compEs n (relabelK ks sc.names) ifs = some xifs) (hil : ifs.length ≤ 1) (hA : Room A k) (hks : env.scope.names = ks) (cs : CompSc ks sc (Str.ofString x)) (R : EnvR W env ρ σ s.heap) (r : HR W σ s)
    (hit : Iter W A I items chk St) (hI : s.heap.get? I = none) (hD : s.heap.get? D = none) (hC : s.heap.get? C = none) (hDC : D ≠ C) (hDI : D ≠ I) (hCI : C ≠ I)
    (hRR : ∀ s', CompEnd W σ s K D C s' → RR (.ok .next) s')
    (s₀ : Shared) (i : Nat) (σ₀ : Hp) (acc : List V) (arr : Array Value) (n₀ : Nat) (m₀ : Str → Option Value)
    (hi : i ≤ items.length) (g : Step W [] σ s σ₀ s₀) (hst : St i s₀.heap) (hσI : σ₀ I = none) (hσD : σ₀ D = none) (hσC : σ₀ C = none) (harr : arr.size ≤ 1000001) (hd : s₀.heap.get? D = some { cls := .type "list", data := .seq arr n₀ }) (hra : Reps W s₀.heap acc arr.toList) (hns : s₀.heap.Ns C m₀)
    (hw : compL (fun v σ₂ K => wpIfs (glb W k) xifs (ρ.set x v) σ₂ (fun b σ₃ => if b = true then wpE (glb W k) xe (ρ.set x v) σ₃ (fun r σ₄ => K (some r) σ₄) X else K Option.none σ₃) X) chk (items.drop i) acc σ₀ K) :
    codeAny (model W.prog W.w) A (.compLoop (.ListComp elt [⟨.Name (Str.ofString x) px, iter, ifs, 0⟩] sc pos) 0 (.ref I) (.ref D) (PySem.compEnvC sc (clOf env sc.names []) C env)) RR s₀ := by
  subst hks
  refine PySem.codeAny_compLoop_tests (fun q s' => ∃ i σ' acc, ∃ arr : Array Value, ∃ n' m', q = items.length - i ∧ i ≤ items.length ∧ Step W [] σ s σ' s' ∧ St i s'.heap ∧ σ' I = none ∧ σ' D = none ∧ σ' C = none ∧ arr.size ≤ 1000001 ∧
      s'.heap.get? D = some { cls := .type "list", data := .seq arr n' } ∧ Reps W s'.heap acc arr.toList ∧ s'.heap.Ns C m' ∧
      compL (fun v σ₂ K => wpIfs (glb W k) xifs (ρ.set x v) σ₂ (fun b σ₃ => if b = true then wpE (glb W k) xe (ρ.set x v) σ₃ (fun r σ₄ => K (some r) σ₄) X else K Option.none σ₃) X) chk (items.drop i) acc σ' K) ?_ (items.length - i)
    ⟨i, σ₀, acc, arr, n₀, m₀, rfl, hi, g, hst, hσI, hσD, hσC, harr, hd, hra, hns, hw⟩
  rintro q s' ⟨i, σ', acc, arr, n', m', rfl, hi, g, hst, hσI, hσD, hσC, harr, hd, hra, hns, hw⟩
  cases hdr : items.drop i with
  | nil =>
    rw [hdr] at hw
    obtain ⟨hchk, hK⟩ := hw
    have hil' : i = items.length := by
      have : (items.drop i).length = 0 := by rw [hdr]; rfl
      rw [List.length_drop] at this; omega
    rw [hil'] at hst
    have hIt := hit.it _ _ hst
    refine hit.done s' σ' _ _ hst g.hr hchk fun h' tk kx => ?_
    have kt := tups_but kx hIt
    obtain ⟨o, es, ep, ho, hq⟩ := hns
    exact hRR _ ⟨acc, σ', arr, n', m', hK, g.over r hI hσI hIt kx tk, harr, kx _ _ hDI hd, hra.mono kt, ⟨o, es, ep, kx _ _ hCI ho, hq⟩, hD, hC, hDC, hσD, hσC⟩
  | cons v vs =>
    rw [hdr] at hw
    obtain ⟨hchk, hlen, hw⟩ := hw
    have hv : items[i]? = some v := by
      have : (items.drop i)[0]? = some v := by rw [hdr]; rfl
      simpa using this
    have hlt : i < items.length := (List.getElem?_eq_some_iff.mp hv).1
    have hdr' : items.drop (i + 1) = vs := by rw [← List.tail_drop, hdr]; rfl
    have hIt := hit.it _ _ hst
    refine hit.item i s' σ' v _ _ hv hst g.hr hchk fun xv h₁ tk₁ rx hst₁ kx => ?_
    have g₁ := g.over r hI hσI hIt kx tk₁
    have kt₁ := tups_but kx hIt
    have hIt₁ := hit.it _ _ hst₁
    have hns₁ : h₁.Ns C m' := by obtain ⟨o, es, ep, ho, hq⟩ := hns; exact ⟨o, es, ep, kx _ _ hCI ho, hq⟩
    refine PySem.wpAny_assign_Name (PySem.wpAny_storeName_local (PySem.lookup_relabel_local cs.loc) hns₁ (fun h₂ hn₂ hs₂ => ?_) (by simp [PySem.compEnvC, PySem.relabel, cs.kind]))
    change h₂.Ns C _ at hn₂
    change PySem.Heap.SameBut C h₁ h₂ at hs₂
    have g₂ := g₁.over r hC hσC (ns_notTup hns₁) hs₂.extBut (tk₁ + 1)
    have kt₂ := tups_but hs₂.extBut (ns_notTup hns₁)
    have hd₂ : h₂.get? D = some { cls := .type "list", data := .seq arr n' } := hs₂.extBut _ _ hDC (kx _ _ hDI hd)
    have hst₂ : St (i + 1) h₂ := hit.frame _ _ _ hst₁ (fun o e => hs₂.extBut _ _ (Ne.symm hCI) e) kt₂
    have R₂ : EnvR W (PySem.compEnvC sc (clOf env sc.names []) C env) (ρ.set x v) σ' h₂ := EnvR.comp (R.step r g₂) cs hn₂ (by simp) (rx.mono kt₂) hσC
    have hnames : (PySem.compEnvC sc (clOf env sc.names []) C env).scope.names = relabelK env.scope.names sc.names := relabel_is sc env R.kind
    have rest : ∀ (b : Bool) (σ₃ : Hp) (s₃ : Shared), Step W [] σ' { s' with heap := h₂, toks := tk₁ + 1 } σ₃ s₃ → (if b = true then wpE (glb W k) xe (ρ.set x v) σ₃ (fun r σ₄ => compL (fun v σ₂ K => wpIfs (glb W k) xifs (ρ.set x v) σ₂ (fun b σ₃ => if b = true then wpE (glb W k) xe (ρ.set x v) σ₃ (fun r σ₄ => K (some r) σ₄) X else K Option.none σ₃) X) chk vs (acc ++ [r]) σ₄ K) X
          else compL (fun v σ₂ K => wpIfs (glb W k) xifs (ρ.set x v) σ₂ (fun b σ₃ => if b = true then wpE (glb W k) xe (ρ.set x v) σ₃ (fun r σ₄ => K (some r) σ₄) X else K Option.none σ₃) X) chk vs acc σ₃ K) →
        if b = true then wpAny (model W.prog W.w) A (PySem.eval elt (PySem.compEnvC sc (clOf env sc.names []) C env)) (fun y s₄ =>
          wpAny (model W.prog W.w) A (PySem.call (.builtin "list.append") [.ref D, y]) (fun _ s₅ => ∃ q, q < items.length - i ∧ ∃ i σ' acc, ∃ arr : Array Value, ∃ n' m', q = items.length - i ∧ i ≤ items.length ∧ Step W [] σ s σ' s₅ ∧ St i s₅.heap ∧ σ' I = none ∧ σ' D = none ∧ σ' C = none ∧ arr.size ≤ 1000001 ∧
      s₅.heap.get? D = some { cls := .type "list", data := .seq arr n' } ∧ Reps W s₅.heap acc arr.toList ∧ s₅.heap.Ns C m' ∧
      compL (fun v σ₂ K => wpIfs (glb W k) xifs (ρ.set x v) σ₂ (fun b σ₃ => if b = true then wpE (glb W k) xe (ρ.set x v) σ₃ (fun r σ₄ => K (some r) σ₄) X else K Option.none σ₃) X) chk (items.drop i) acc σ' K) (PySem.notedBy (model W.prog W.w) A (PySem.compEnvC sc (clOf env sc.names []) C env) fun e s' => RR (.error e) s') s₄) (PySem.notedBy (model W.prog W.w) A (PySem.compEnvC sc (clOf env sc.names []) C env) fun e s' => RR (.error e) s') s₃
        else ∃ q, q < items.length - i ∧ ∃ i σ' acc, ∃ arr : Array Value, ∃ n' m', q = items.length - i ∧ i ≤ items.length ∧ Step W [] σ s σ' s₃ ∧ St i s₃.heap ∧ σ' I = none ∧ σ' D = none ∧ σ' C = none ∧ arr.size ≤ 1000001 ∧
      s₃.heap.get? D = some { cls := .type "list", data := .seq arr n' } ∧ Reps W s₃.heap acc arr.toList ∧ s₃.heap.Ns C m' ∧
      compL (fun v σ₂ K => wpIfs (glb W k) xifs (ρ.set x v) σ₂ (fun b σ₃ => if b = true then wpE (glb W k) xe (ρ.set x v) σ₃ (fun r σ₄ => K (some r) σ₄) X else K Option.none σ₃) X) chk (items.drop i) acc σ' K := by
      intro b σ₃ s₃ st hb
      have kt₃ := st.tups g₂.hr (Own.nil _)
      obtain ⟨oI, eI, _⟩ := hit.it _ _ hst₂
      obtain ⟨eI₃, hσI₃⟩ := st.keep I _ eI hσI (by simp)
      obtain ⟨hd₃, hσD₃⟩ := st.keep D _ hd₂ hσD (by simp)
      obtain ⟨o, es, ep, ho, hq⟩ := hn₂
      obtain ⟨ho₃, hσC₃⟩ := st.keep C _ ho hσC (by simp)
      have hst₃ : St (i + 1) s₃.heap := hit.frame _ _ _ hst₂ (fun o' e => by rw [eI] at e; cases e; exact eI₃) kt₃
      have hra₃ : Reps W s₃.heap acc arr.toList := ((hra.mono kt₁).mono kt₂).mono kt₃
      cases b with
      | false =>
        simp only [Bool.false_eq_true, if_false] at hb ⊢
        exact ⟨items.length - (i + 1), by omega, i + 1, σ₃, acc, arr, n', _, rfl, hlt, g₂.trans st, hst₃, hσI₃, hσD₃, hσC₃, harr, hd₃, hra₃, ⟨o, es, ep, ho₃, hq⟩, by rw [hdr']; exact hb⟩
      | true =>
        simp only [if_true] at hb ⊢
        refine PySem.wpAny_mono (IE _ elt xe hce A _ _ σ₃ s₃ _ X hA hnames (R₂.step g₂.hr st) st.hr hb) (fun y s₄ h₄ => ?_) fun _ _ q => q.elim
        obtain ⟨u, σ₄, hw₄, ru, st₄⟩ := h₄
        have kt₄ := st₄.tups st.hr (Own.nil _)
        obtain ⟨eI₄, hσI₄⟩ := st₄.keep I _ eI₃ hσI₃ (by simp)
        obtain ⟨hd₄, hσD₄⟩ := st₄.keep D _ hd₃ hσD₃ (by simp)
        obtain ⟨ho₄, hσC₄⟩ := st₄.keep C _ ho₃ hσC₃ (by simp)
        have hst₄ : St (i + 1) s₄.heap := hit.frame _ _ _ hst₃ (fun o' e => by rw [eI₃] at e; cases e; exact eI₄) kt₄
        have hal : acc.length = arr.size := by rw [hra.length, Array.length_toList]
        refine PySem.wpAny_list_append_plain (items := arr) ⟨n', hd₄⟩ (fun h₅ hp₅ hs₅ => ?_) (by rw [sizeLine_is]; unfold lenOk at hlen; omega)
        have hDt : ∃ o, s₄.heap.get? D = some o ∧ ¬ isTup o := ⟨_, hd₄, notTup_cls (by simp)⟩
        have kt₅ := tups_but hs₅.extBut hDt
        obtain ⟨n₅, hd₅⟩ := hp₅
        refine ⟨items.length - (i + 1), by omega, i + 1, σ₄, acc ++ [u], arr.push y, n₅, _, rfl, hlt, (((g₂.trans st).trans st₄).over r hD hσD₄ hDt hs₅.extBut s₄.toks), hit.frame _ _ _ hst₄ (fun o' e => hs₅.extBut _ _ (Ne.symm hDI) e) kt₅, hσI₄, hσD₄, hσC₄, ?_, hd₅, ?_, ⟨o, es, ep, hs₅.extBut _ _ (Ne.symm hDC) ho₄, hq⟩, by rw [hdr']; exact hw₄⟩
        · unfold lenOk at hlen; rw [Array.size_push]; omega
        · rw [Array.toList_push]; exact ((hra₃.mono kt₄).mono kt₅).append (.one (ru.mono kt₅))
    cases ifs with
    | nil =>
      have hx : xifs = [] := by cases n <;> simp only [cEs_zero, cEs_nil, cEs_cons, Option.some.injEq, reduceCtorEq] at hci; exact hci.symm
      subst hx
      exact PySem.wpAny_tests_nil (rest true σ' _ (.refl g₂.hr) hw)
    | cons c cs' =>
      have hcs : cs' = [] := by cases cs' with | nil => rfl | cons _ _ => simp at hil
      subst hcs
      cases n with
      | zero => simp [cEs_zero, cEs_nil, cEs_cons] at hci
      | succ n =>
        simp only [cEs_zero, cEs_nil, cEs_cons] at hci
        split at hci
        · simp only [Option.bind_eq_bind, Option.bind_eq_some_iff, Option.pure_def, Option.some.injEq] at hci
          obtain ⟨xc, hxc, xr, hxr, rfl⟩ := hci
          have hx : xr = [] := by cases n <;> simp only [cEs_zero, cEs_nil, cEs_cons, Option.some.injEq, reduceCtorEq] at hxr; exact hxr.symm
          subst hx
          refine PySem.wpAny_tests_one (PySem.wpAny_mono (IT n (by omega) _ c xc hxc A _ _ σ' _ _ X hA hnames R₂ g₂.hr hw (fun v σ' ⟨b, hb, _⟩ => by rw [hb]; rfl)) (fun b s₃ h₃ => ?_) fun _ _ q => q.elim)
          obtain ⟨u, σ₃, ⟨b', hb', hw₃⟩, hb, st⟩ := h₃
          obtain rfl : b' = b := by rw [hb'] at hb; exact Option.some.inj hb
          refine rest b' σ₃ s₃ st ?_
          cases b' with
          | false => simpa using hw₃
          | true => simpa [wpIfs] using hw₃
        · cases hci
end
end RS

namespace RS
open PySem (Program World Shared Addr Value Obj Heap Str Around wpAny codeAny model Scope NameKind Expr Stmt FuncData cLine recursionLimit sizeLine mainGlobals builtinsNs PyData)

section
variable {W : Wd} {k n : Nat}

theorem sComp (T : TopOk W) (IE : ∀ m, m ≤ n → SE W k m) (IT : ∀ m, m ≤ n → STr W k m) {elt : Expr} {gens : List PySem.Comprehension} {sc : Scope} {pos : PySem.Pos} {ks : Ks} {x : X} (h : compE (n + 1) ks (.ListComp elt gens sc pos) = some x)
    {A : Around} {env : PySem.Env} {ρ : Env} {σ : Hp} {s : Shared} {Q : VP} {X : XP} (hA : Room A k) (hks : env.scope.names = ks) (R : EnvR W env ρ σ s.heap) (r : HR W σ s) (hw : wpE (glb W k) x ρ σ Q X)
    {use : Option (Value → PySem.Sem Unit)} {Q' : Value → Shared → Prop} {E : Value → Shared → Prop}
    (hp : ∀ D C s', CompEnd W σ s (fun vs σ' => newP σ' (.lst vs) Q) D C s' → PySem.compPost (model W.prog W.w) A E use Q' (.ref D) C (.ok .next) s') (pos' : PySem.Pos) :
    wpAny (model W.prog W.w) A (PySem.comprehension (.ListComp elt gens sc pos) sc env pos' (PySem.newList []) (PySem.firstAsync gens) (PySem.firstIter gens env) use) Q' E s := by
  rw [cE_ListComp] at h
  split at h
  · rename_i xn px iter ifs
    split at h
    · cases h
    · rename_i hf
      simp only [Bool.or_eq_true, not_or, Bool.not_eq_true, Nat.not_lt, Bool.not_eq_true', Bool.not_eq_false, List.all_eq_true, bne_iff_ne, beq_iff_eq, beq_eq_false_iff_ne, ne_eq, decide_eq_true_eq, Decidable.not_not] at hf
      obtain ⟨⟨⟨⟨⟨⟨⟨⟨hset, hkind⟩, hcell⟩, hloc⟩, hlocs⟩, hfree⟩, honly⟩, hne0⟩, hil⟩ := hf
      simp only [Option.bind_eq_bind, Option.bind_eq_some_iff, Option.pure_def, Option.some.injEq] at h
      obtain ⟨src, hsrc, x', hx', xe, hxe, xifs, hxifs, rfl⟩ := h
      cases nm_is hx'
      have cs : CompSc ks sc (Str.ofString x') := {
        kind := hkind
        nocell := fun y hy => hcell y hy
        loc := hloc
        locs := fun y hy e => by rcases hlocs y hy with q | q; exact absurd e q; exact q
        free := fun y hy e => by rcases hfree y hy with q | q; exact absurd e q; exact q
        only := fun y hy e => by rcases honly y hy with (q | q) | q; exact .inl q; exact .inr q; exact absurd e q
        ne0 := hne0 }
      have S := sSrc_of (n := n) T fun m hm => IE m (by omega)
      have hcl : PySem.closureFor sc env = pure (clOf env sc.names []) := clOf_is env sc fun y hy e => R.cells _ (by rw [hks]; exact cs.free y hy e)
      refine PySem.wpAny_comprehension_free (g := ⟨.Name (Str.ofString x') px, iter, ifs, 0⟩) (gs := []) rfl (folded_id env hset) hcl cs.kind cs.locs ?_
      refine PySem.wpAny_mono (S ks iter src hsrc A env ρ σ s _ X hA hks R r hw) (fun xv s₁ h₁ => PySem.wpAny_mono h₁ (fun it s₂ h₂ => ?_) fun _ _ q => q.elim) fun _ _ q => q.elim
      obtain ⟨I, items, chk, St, σ₁, rfl, hit, hst, hσI, hI, hK, st⟩ := h₂
      refine PySem.wpAny_newObj_type (PySem.wpAny_newFunctionEnv cs.nocell (by intro y hy; simp at hy) (fun h₁ hns₁ hsb₁ => ?_) cs.kind)
      dsimp only at hns₁ hsb₁ ⊢
      generalize hH2 : s₂.heap.push { cls := .type "list", dict := none, data := .seq ([] : List Value).toArray } = H2 at hns₁ hsb₁ ⊢
      have hC : H2.objs.size = s₂.heap.objs.size + 1 := by rw [← hH2, PySem.Heap.size_push]
      have below : ∀ b o, s₂.heap.get? b = some o → b ≠ H2.objs.size ∧ b ≠ s₂.heap.objs.size := fun b o e => by
        have := PySem.Heap.lt_size e
        have hC' := hC
        constructor
        · rintro rfl; rw [hC'] at this; exact absurd this (by simp)
        · rintro rfl; exact absurd this (Nat.lt_irrefl _)
      have old : ∀ b o, s₂.heap.get? b = some o → h₁.get? b = some o := fun b o e => hsb₁.extBut b o (below b o e).1 (PySem.Heap.get?_push_of_some _ (hH2 ▸ PySem.Heap.get?_push_of_some _ e))
      have hDC : s₂.heap.objs.size ≠ H2.objs.size := by rw [hC]; exact Nat.ne_of_lt (Nat.lt_succ_self _)
      have hd : h₁.get? s₂.heap.objs.size = some { cls := .type "list", data := .seq #[] 0 } := hsb₁.extBut _ _ hDC (PySem.Heap.get?_push_of_some _ (hH2 ▸ PySem.Heap.get?_push_size _ rfl))
      have fresh : ∀ a, s₂.heap.objs.size ≤ a → s.heap.get? a = none := fun a ha => by
        cases e : s.heap.get? a with
        | none => rfl
        | some o => obtain ⟨o', e', _⟩ := st.live a o e; exact absurd (PySem.Heap.lt_size e') (Nat.not_lt.mpr ha)
      have fresh₂ : ∀ a, s₂.heap.objs.size ≤ a → s₂.heap.get? a = none := fun a ha => by
        cases e : s₂.heap.get? a with
        | none => rfl
        | some o => exact absurd (PySem.Heap.lt_size e) (Nat.not_lt.mpr ha)
      have hIt := hit.it _ _ hst
      obtain ⟨oI, eI, _⟩ := hIt
      have st₁ := st.trans (st.hr.grow (h' := h₁) old s₂.toks [])
      have hst₁ : St 0 h₁ := hit.frame _ _ _ hst (fun o e => old _ _ e) fun b o e _ => old b o e
      have hCle : s₂.heap.objs.size ≤ H2.objs.size := by omega
      have loop : codeAny (model W.prog W.w) A (.compLoop (.ListComp elt [⟨.Name (Str.ofString x') px, iter, ifs, 0⟩] sc pos) 0 (.ref I) (.ref s₂.heap.objs.size) (PySem.compEnvC sc (clOf env sc.names []) H2.objs.size env))
          (PySem.compPost (model W.prog W.w) A E use Q' (.ref s₂.heap.objs.size) H2.objs.size) { s₂ with heap := h₁, toks := s₂.toks } := by
        refine compLoop_sound (X := X) (IE n (Nat.le_refl n)) IT hxe hxifs (by omega) hA hks cs R r hit hI (fresh _ (Nat.le_refl _)) (fresh _ hCle) hDC (fun q => (below _ _ eI).2 q.symm) (fun q => (below _ _ eI).1 q.symm) (hp _ _) _ 0 σ₁ [] #[] 0 _ (Nat.zero_le _) st₁ hst₁ hσI (st.hr.fresh (fresh₂ _ (Nat.le_refl _))) (st.hr.fresh (fresh₂ _ hCle)) (by simp) hd .nil hns₁ ?_
        simpa using hK
      exact PySem.codeAny_compStart_list loop (hit.self 0 _ _ _ hst₁ loop)
  · cases h

theorem methP_append {g : Glb} {a : Addr} {ws : List V} {σ : Hp} {Q : VP} {X : XP} (h : methP g (.ref a) .append ws σ Q X) : ∃ vs u, σ a = some (.lst vs) ∧ ws = [u] ∧ lenOk vs.length ∧ Q .none (σ.set a (.lst (vs ++ [u]))) := by
  cases hc : σ a with
  | none => simp [methP, hc] at h
  | some c =>
    cases c with
    | lst vs =>
      match ws, h with
      | [u], h => exact ⟨vs, u, rfl, rfl, by simpa [methP, hc] using h⟩
      | [], h => simp [methP, hc] at h
      | _ :: _ :: _, h => simp [methP, hc] at h
    | _ => simp [methP, hc] at h
theorem methP_pop {g : Glb} {a : Addr} {ws : List V} {σ : Hp} {Q : VP} {X : XP} (h : methP g (.ref a) .pop ws σ Q X) : ∃ vs u, σ a = some (.lst vs) ∧ ws = [] ∧ vs.getLast? = some u ∧ Q u (σ.set a (.lst vs.dropLast)) := by
  cases hc : σ a with
  | none => simp [methP, hc] at h
  | some c =>
    cases c with
    | lst vs =>
      match ws, h with
      | [], h =>
        simp only [methP, hc] at h
        obtain ⟨u, h1, h2⟩ := h
        exact ⟨vs, u, rfl, rfl, h1, h2⟩
      | _ :: _, h => simp [methP, hc] at h
    | _ => simp [methP, hc] at h
theorem methP_clear {g : Glb} {a : Addr} {ws : List V} {σ : Hp} {Q : VP} {X : XP} (h : methP g (.ref a) .clear ws σ Q X) : ∃ vs, σ a = some (.lst vs) ∧ ws = [] ∧ Q .none (σ.set a (.lst [])) := by
  cases hc : σ a with
  | none => simp [methP, hc] at h
  | some c =>
    cases c with
    | lst vs =>
      match ws, h with
      | [], h => exact ⟨vs, rfl, rfl, by simpa [methP, hc] using h⟩
      | _ :: _, h => simp [methP, hc] at h
    | _ => simp [methP, hc] at h

theorem meOf_app {n : Nat} {m : String} (h : meOf n m = .append) : m = "append" := by
  unfold meOf at h; split at h <;> first | rfl | (split at h <;> cases h) | cases h
theorem meOf_pop {n : Nat} {m : String} (h : meOf n m = .pop) : m = "pop" := by
  unfold meOf at h; split at h <;> first | rfl | (split at h <;> cases h) | cases h
theorem meOf_clear {n : Nat} {m : String} (h : meOf n m = .clear) : m = "clear" := by
  unfold meOf at h; split at h <;> first | rfl | (split at h <;> cases h) | cases h
/-- a method of an object -/
theorem sMeth (T : TopOk W) (I0 : SE W k n) (IEs : SEs W k n) {o : Expr} {m : Str} {apos pos : PySem.Pos} {args : List Expr} {ks : Ks} {xo : X} {as : List X} {m' : String} (hb : plainBase o = true) (hpos : (apos.endLine == pos.line) = true) (hl : args.length ≤ 20) (hxo : compE n ks o = some xo) (hm : nm m = some m') (has : compEs n ks args = some as)
    {A : Around} {env : PySem.Env} {ρ : Env} {σ : Hp} {s : Shared} {Q : VP} {X : XP} (hA : Room A k) (hks : env.scope.names = ks) (R : EnvR W env ρ σ s.heap) (r : HR W σ s) (hw : wpE (glb W k) (.meth xo (meOf args.length m') as) ρ σ Q X) :
    wpAny (model W.prog W.w) A (PySem.eval (.Call (.Attribute o m apos) args [] pos) env) (EPost W σ s Q) XF s := by
  have hst := compEs_star has
  cases nm_is hm
  rw [meth_eval hb hpos hst hl]
  refine PySem.wpAny_bind (PySem.wpAny_mono (I0 ks o xo hxo A env ρ σ s _ X hA hks R r hw) (fun ov s₁ h₁ => PySem.wpAny_bind (PySem.wpAny_standAt ?_)) fun _ _ q => q)
  obtain ⟨v, σ₁, ⟨hrecv, hw₁⟩, rv, st⟩ := h₁
  generalize hme : meOf args.length m' = me at hrecv hw₁
  have go := fun (id : String) (first : List Value) (P : Value → Shared → Prop) (hgo : ∀ vs σ₂ ys s₂, methP (glb W k) v me vs σ₂ Q X → Reps W s₂.heap vs ys → Step W [] σ₁ s₁ σ₂ s₂ → ys.length = args.length → wpAny (model W.prog W.w) A (PySem.call (.builtin id) (first ++ ys) []) P XF s₂) =>
    PySem.Calls.callWith_builtin (pos := pos) (id := id) (first := first) (Q := P) (stars (env := env) (pos := pos) hst) (evalArgs_s hst (PySem.wpAny_mono (IEs ks args as has A env ρ σ₁ s₁ _ X pos hA hks (R.step r st) st.hr hw₁) (fun ys s₂ h₂ => let ⟨vs, σ₂, hq, rs, st₂, hl⟩ := h₂; hgo vs σ₂ ys s₂ hq rs st₂ hl) fun _ _ q => q))
  unfold recv at hrecv
  split at hrecv
  · rename_i a
    cases rv.ref_inv
    split at hrecv
    · rename_i vs ha
      cases meOf_app hme
      refine PySem.wpAny_bind (PySem.wpAny_holding (getMethod_lst PySem.slot_list_append (by with_unfolding_all rfl) st.hr ha ?_))
      refine go _ _ _ fun ws σ₂ ys s₂ hq rs st₂ _ => ?_
      obtain ⟨vs', u, ha', rfl, hlen, hq⟩ := methP_append hq
      obtain ⟨x, rfl, rx⟩ : ∃ x, ys = [x] ∧ Rep W s₂.heap u x := by
        cases rs with | cons rx rs' => cases rs' with | nil => exact ⟨_, rfl, rx⟩
      obtain ⟨items, nn, z, e, q⟩ := st₂.hr.lst ha'
      have hle := q.length; simp only [Array.length_toList] at hle
      refine PySem.wpAny_list_append_plain (items := items) ⟨nn, e⟩ (fun h₅ hp₅ hs₅ => ?_) (by rw [sizeLine_is]; omega)
      obtain ⟨n₅, hd₅⟩ := hp₅
      have kt := tups_but hs₅.extBut ⟨_, e, notTup_cls (by simp)⟩
      refine ⟨_, _, hq, .none, (st.trans st₂).trans (st₂.hr.upd ha' hs₅.extBut (.lst ?_ hd₅ ?_) s₂.toks [])⟩
      · unfold lenOk at hlen; rw [Array.size_push]; omega
      · rw [Array.toList_push]; exact (q.mono kt).append (.one (rx.mono kt))
    · rename_i vs ha
      cases meOf_pop hme
      refine PySem.wpAny_bind (PySem.wpAny_holding (getMethod_lst PySem.F.slot_list_pop (by with_unfolding_all rfl) st.hr ha ?_))
      cases args with
      | nil =>
        have hx : as = [] := by cases n <;> simp only [cEs_zero, cEs_nil, cEs_cons, Option.some.injEq, reduceCtorEq] at has; exact has.symm
        subst hx
        obtain ⟨vs', u, ha', _, hu, hq⟩ := methP_pop (show methP (glb W k) (.ref a) .pop [] σ₁ Q X from hw₁)
        exact PySem.wpAny_mono (pop_s st.hr ha' hu hq) (fun _ _ q => EPost.trans st q) fun _ _ q => q
      | cons e es =>
        refine go _ _ _ fun ws σ₂ ys s₂ hq rs st₂ hlen => ?_
        obtain ⟨vs', u, ha', rfl, hu, hq⟩ := methP_pop hq
        have := rs.length; rw [hlen] at this; simp at this
    · rename_i vs ha
      cases meOf_clear hme
      refine PySem.wpAny_bind (PySem.wpAny_holding (getMethod_lst PySem.F.slot_list_clear (by with_unfolding_all rfl) st.hr ha ?_))
      cases args with
      | nil =>
        have hx : as = [] := by cases n <;> simp only [cEs_zero, cEs_nil, cEs_cons, Option.some.injEq, reduceCtorEq] at has; exact has.symm
        subst hx
        obtain ⟨vs', ha', _, hq⟩ := methP_clear (show methP (glb W k) (.ref a) .clear [] σ₁ Q X from hw₁)
        exact PySem.wpAny_mono (clear_s st.hr ha' hq) (fun _ _ q => EPost.trans st q) fun _ _ q => q
      | cons e es =>
        refine go _ _ _ fun ws σ₂ ys s₂ hq rs st₂ hlen => ?_
        obtain ⟨vs', ha', rfl, hq⟩ := methP_clear hq
        have := rs.length; rw [hlen] at this; simp at this
    · exact hrecv.elim
    · exact hrecv.elim
    · exact hrecv.elim
    · exact hrecv.elim
    · exact hrecv.elim
    · exact hrecv.elim
  · exact hrecv.elim

theorem sE_step (T : TopOk W) (IE : ∀ m, m < n + 1 → SE W k m) (IT : ∀ m, m < n + 1 → STr W k m) : SE W k (n + 1) := by
  have IEs : SEs W k n := sEs_of fun m hm => IE m (by omega)
  have I0 : SE W k n := IE n (Nat.lt_succ_self n)
  intro ks e x h A env ρ σ s Q X hA hks R r hw
  cases e with
  | Constant c kk pos =>
    cases c <;> simp only [cE_Constant, Option.some.injEq, reduceCtorEq, Option.map_eq_some_iff] at h
    · subst h; exact PySem.wpAny_pure ⟨_, _, hw, .none, .refl r⟩
    · subst h; exact PySem.wpAny_pure ⟨_, _, hw, .bool _, .refl r⟩
    · subst h; exact PySem.wpAny_Constant_int ⟨_, _, hw, .int _ _, r.tok _ _⟩
    · obtain ⟨a, ha, rfl⟩ := h
      cases nm_is ha
      exact fun _ _ _ => ⟨_, _, hw, .str _ _, r.tok _ _⟩
  | Name id pos =>
    rw [cE_Name] at h
    split at h
    · cases h
    · rename_i hd
      simp only [Bool.or_eq_true, not_or, Bool.not_eq_true] at hd
      subst hks
      split at h
      · rename_i hv
        simp only [Option.map_eq_some_iff] at h
        obtain ⟨a, ha, rfl⟩ := h
        cases nm_is ha
        obtain ⟨v, hv', hq⟩ := hw
        exact PySem.wpAny_Name (ld_var R r hv hd.1.2 (by simpa using hd.2) hv' hq) hd.1.1
      · split at h
        · rename_i hv
          simp only [Option.map_eq_some_iff] at h
          obtain ⟨a, ha, rfl⟩ := h
          cases nm_is ha
          obtain ⟨v, hv', hq⟩ := hw
          obtain ⟨y, hy, hr⟩ := T.globV _ _ hv'
          exact PySem.wpAny_Name (ld_glob T r R hv hy ⟨_, _, hq, hr _, .refl r⟩) hd.1.1
        · cases h
  | BinOp l op rr pos =>
    simp only [cE_BinOp, Option.bind_eq_bind, Option.bind_eq_some_iff, Option.pure_def, Option.some.injEq] at h
    obtain ⟨o, ho, xl, hl, xr, hr, rfl⟩ := h
    refine PySem.wpAny_BinOp (PySem.wpAny_mono (I0 ks l xl hl A env ρ σ s _ X hA hks R r hw) (fun a s₁ h₁ => ?_) fun _ _ q => q)
    obtain ⟨v, σ₁, hw₁, rv, st⟩ := h₁
    refine PySem.wpAny_mono (I0 ks rr xr hr A env ρ σ₁ s₁ _ X hA hks (R.step r st) st.hr hw₁) (fun b s₂ h₂ => ?_) fun _ _ q => q
    obtain ⟨w, σ₂, hw₂, rw', st₂⟩ := h₂
    have eo : op = opOf o := by cases op <;> simp [bopOf] at ho <;> subst ho <;> rfl
    rw [eo]
    exact PySem.wpAny_mono (bin_sound st₂.hr (rv.mono (st₂.tups st.hr (Own.nil _))) rw' hw₂) (fun _ _ q => (EPost.trans (st.trans st₂) q)) fun _ _ q => q
  | UnaryOp op a pos =>
    cases op <;> simp only [cE_UnaryOp, Option.map_eq_some_iff, reduceCtorEq] at h
    · obtain ⟨xa, ha, rfl⟩ := h
      refine PyProof.Rows.UnaryOp_ (PySem.wpAny_mono (I0 ks a xa ha A env ρ σ s _ X hA hks R r hw) (fun y s₁ h₁ => ?_) fun _ _ q => q)
      obtain ⟨v, σ₁, ⟨b, hb, hq⟩, rv, st⟩ := h₁
      exact PyProof.Rows.not_of (truthy_sound rv hb ⟨_, _, hq, .bool _, st⟩)
    · obtain ⟨xa, ha, rfl⟩ := h
      refine PyProof.Rows.UnaryOp_ (PySem.wpAny_mono (I0 ks a xa ha A env ρ σ s _ X hA hks R r hw) (fun y s₁ h₁ => ?_) fun _ _ q => q)
      obtain ⟨v, σ₁, ⟨i, rfl, hq⟩, rv, st⟩ := h₁
      obtain ⟨t, rfl⟩ := rv.int_inv
      exact PyProof.Rows.neg_int ⟨_, _, hq, .int _ _, st.trans (st.hr.tok _ _)⟩
  | BoolOp op vs pos =>
    rw [cE_BoolOp] at h
    split at h
    · cases h
    · simp only [Option.map_eq_some_iff] at h
      obtain ⟨xs, hxs, rfl⟩ := h
      have := sBop (fun m hm => IE m (by omega)) (op == .And) pos vs n (Nat.le_refl n) ks xs hxs A env ρ σ s Q X hA hks R r hw
      cases op <;> exact this
  | Compare l ops cs pos =>
    rw [cE_Compare] at h
    split at h
    · rename_i op rr
      split at h
      · cases h
      · rename_i hset
        simp only [Option.bind_eq_bind, Option.bind_eq_some_iff, Option.pure_def, Option.some.injEq] at h
        obtain ⟨xl, hl, o, ho, xr, hr, rfl⟩ := h
        rw [opC ho]
        refine PySem.wpAny_Compare1 (PySem.wpAny_mono (I0 ks l xl hl A env ρ σ s _ X hA hks R r hw) (fun a s₁ h₁ => ?_) fun _ _ q => q) (beh_of (by simpa using hset))
        obtain ⟨v, σ₁, hw₁, rv, st⟩ := h₁
        refine PySem.wpAny_mono (I0 ks rr xr hr A env ρ σ₁ s₁ _ X hA hks (R.step r st) st.hr hw₁) (fun b s₂ h₂ => ?_) fun _ _ q => q
        obtain ⟨w, σ₂, hw₂, rw', st₂⟩ := h₂
        exact cmp_sound T.toWOk hA st₂.hr (rv.mono (st₂.tups st.hr (Own.nil _))) rw' hw₂ fun b tk hb => ⟨_, _, hb, .bool _, (st.trans st₂).trans (st₂.hr.tok _ _)⟩
    · rename_i op op2 rr r2
      split at h
      · cases h
      · rename_i hset
        simp only [Bool.or_eq_true, not_or, Bool.not_eq_true] at hset
        simp only [Option.bind_eq_bind, Option.bind_eq_some_iff, Option.pure_def, Option.some.injEq] at h
        obtain ⟨xl, hl, o, ho, xr, hr, o2, ho2, xr2, hr2, rfl⟩ := h
        rw [opC ho, opC ho2]
        refine PyProof.Rows.Compare_chain (rs := []) (ops := []) (PySem.wpAny_mono (I0 ks l xl hl A env ρ σ s _ X hA hks R r hw) (fun a s₁ h₁ => ?_) fun _ _ q => q) (beh_of hset.2)
        obtain ⟨v, σ₁, hw₁, rv, st⟩ := h₁
        refine PyProof.Rows.chain_link (PySem.wpAny_mono (I0 ks rr xr hr A env ρ σ₁ s₁ _ X hA hks (R.step r st) st.hr hw₁) (fun b s₂ h₂ => ?_) fun _ _ q => q)
        obtain ⟨w, σ₂, hw₂, rw', st₂⟩ := h₂
        refine cmp_sound T.toWOk hA st₂.hr (rv.mono (st₂.tups st.hr (Own.nil _))) rw' hw₂ fun c tk hc => PySem.wpAny_truthy_bool ?_
        have st3 := (st.trans st₂).trans (st₂.hr.tok tk [])
        cases c with
        | false => exact ⟨_, _, by simpa using hc, .bool _, st3⟩
        | true =>
          simp only [if_true] at hc ⊢
          refine PyProof.Rows.chain_last (PySem.wpAny_mono (I0 ks r2 xr2 hr2 A env ρ σ₂ _ _ X hA hks (R.step r st3) st3.hr hc) (fun b' s₃ h₃ => ?_) fun _ _ q => q)
          obtain ⟨u, σ₃, hw₃, ru, st4⟩ := h₃
          exact cmp_sound T.toWOk hA st4.hr (rw'.mono (st4.tups st3.hr (Own.nil _))) ru hw₃ fun b tk hb => ⟨_, _, hb, .bool _, (st3.trans st4).trans (st4.hr.tok _ _)⟩
    · cases h
  | Call f args kws pos =>
    rw [cE_Call] at h
    split at h
    · rename_i f p
      split at h
      · cases h
      · rename_i hf
        simp only [Bool.or_eq_true, not_or, Bool.not_eq_true, Bool.not_eq_true', Bool.not_eq_false, decide_eq_true_eq, Nat.not_lt] at hf
        simp only [Option.bind_eq_bind, Option.bind_eq_some_iff] at h
        obtain ⟨x', hx', as, has, h⟩ := h
        cases nm_is hx'
        subst hks
        split at h
        · rename_i b hb
          simp only [Option.pure_def, Option.some.injEq] at h; subst h
          have hst := compEs_star has
          refine PySem.wpAny_Call_NameR (PySem.wpAny_Name (ld_glob T r R hf.1.2 (.inr (T.biB _ _ hb)) ?_) hf.1.1)
          have go : wpAny (model W.prog W.w) A (PySem.spliced (PySem.backTo pos (PySem.starEach args env))) (fun ys s₁ => wpAny (model W.prog W.w) A (PySem.call (biV b) ([] ++ ys) []) (EPost W σ s Q) XF s₁) XF s := by
            refine PySem.wpAny_mono (IEs _ args as has A env ρ σ s _ X pos hA rfl R r hw) (fun ys s₁ h₁ => ?_) fun _ _ q => q
            obtain ⟨vs, σ₁, hq, rs, st, hl⟩ := h₁
            exact PySem.wpAny_mono (bi_sound rfl T.toWOk hA st.hr rs hq) (fun _ _ q => EPost.trans st q) fun _ _ q => q
          cases b <;> first | exact PySem.Calls.callWith_builtin (stars hst) (evalArgs_s hst go) | exact PySem.callWith_type (stars hst) (evalArgs_s hst go)
        · split at h
          · cases h
          · simp only [Option.pure_def, Option.some.injEq] at h; subst h
            have hst := compEs_star has
            obtain ⟨hhas, hw⟩ := hw
            have hw' : wpEs (glb W k) as ρ σ (fun vs σ₁ => callP W k x' vs σ₁ Q X) X := hw
            obtain ⟨fa, hfa, hmg, o, fd, ho, hd⟩ := T.fnF x' (by simpa [glb] using hhas)
            refine PySem.wpAny_Call_NameR (PySem.wpAny_Name (ld_glob T r R hf.1.2 (.inl hmg) ?_) hf.1.1)
            refine PySem.Calls.callWith_function (o := o) (fd := fd) (evalArgs_s hst (PySem.wpAny_mono (IEs _ args as has A env ρ σ s _ X pos hA rfl R r hw') (fun ys s₁ h₁ => ?_) fun _ _ q => q))
            obtain ⟨vs, σ₁, ⟨fa', hfa', hc⟩, rs, st, hl⟩ := h₁
            rw [hfa] at hfa'; cases hfa'
            refine ⟨⟨(st.hr.base _ _ ho).1, hd⟩, PySem.wpAny_call (PySem.codeAny_mono (hc A s₁ ys hA st.hr rs) fun rr s₂ h₂ => ?_)⟩
            cases rr with
            | error e => exact h₂.elim
            | ok fl => cases fl <;> first | exact h₂.elim | exact EPost.trans st h₂
    · rename_i o m apos
      split at h
      · rename_i hf
        simp only [Bool.and_eq_true, decide_eq_true_eq] at hf
        simp only [Option.bind_eq_bind, Option.bind_eq_some_iff, Option.pure_def, Option.some.injEq] at h
        obtain ⟨xo, hxo, m', hm', as, has, rfl⟩ := h
        exact sMeth T I0 IEs hf.1.1 hf.1.2 hf.2 hxo hm' has hA hks R r hw
      · cases h
    · cases h
  | Subscript v sl pos =>
    rw [cE_Subscript] at h
    split at h
    · rename_i l u p
      simp only [Option.bind_eq_bind, Option.bind_eq_some_iff, Option.pure_def, Option.some.injEq] at h
      obtain ⟨xv, hv, xl, hl, xu, hu, rfl⟩ := h
      have SO := sO_of (n := n) fun m hm => IE m (by omega)
      refine PyProof.Rows.Subscript_ (PySem.wpAny_mono (I0 ks v xv hv A env ρ σ s _ X hA hks R r hw) (fun a s₁ h₁ => ?_) fun _ _ q => q)
      obtain ⟨o, σ₁, hw₁, rv, st⟩ := h₁
      refine PySem.wpAny_Slice (PySem.wpAny_mono (SO ks l xl hl A env ρ σ₁ s₁ _ X hA hks (R.step r st) st.hr hw₁) (fun yl s₂ h₂ => ?_) fun _ _ q => q)
      obtain ⟨vl, σ₂, hw₂, rl, st₂⟩ := h₂
      have st12 := st.trans st₂
      refine PySem.wpAny_mono (SO ks u xu hu A env ρ σ₂ s₂ _ X hA hks (R.step r st12) st₂.hr hw₂) (fun yu s₃ h₃ => ?_) fun _ _ q => q
      obtain ⟨vu, σ₃, hw₃, ru, st₃⟩ := h₃
      have k3 := st₃.tups st₂.hr (Own.nil _)
      refine PySem.wpAny_pure ?_
      exact PySem.wpAny_mono (slice_sound rfl T.toWOk st₃.hr ((rv.mono (st₂.tups st.hr (Own.nil _))).mono k3) (rl.mono k3) ru hw₃ fun y => subs_any _ _ _) (fun _ _ q => EPost.trans (st12.trans st₃) q) fun _ _ q => q
    · simp only [Option.map_eq_some_iff] at h
      obtain ⟨xv, hv, rfl⟩ := h
      exact hw.1.elim
    · cases h
    · simp only [Option.bind_eq_bind, Option.bind_eq_some_iff, Option.pure_def, Option.some.injEq] at h
      obtain ⟨xv, hv, xi, hi, rfl⟩ := h
      exact sIdx T I0 hv hi hA hks R r hw
  | Attribute o a pos =>
    rw [cE_Attribute] at h
    split at h
    · simp only [Option.bind_eq_bind, Option.bind_eq_some_iff, Option.pure_def, Option.some.injEq] at h
      obtain ⟨xo, ho, a', ha, rfl⟩ := h
      exact hw.1.elim
    · cases h
  | Tuple es kk pos =>
    rw [cE_Tuple] at h
    split at h
    · cases h
    · simp only [Option.map_eq_some_iff] at h
      obtain ⟨xs, hxs, rfl⟩ := h
      rename_i hlen
      refine PyProof.Rows.Tuple_ (PySem.wpAny_mono (IEs ks es xs hxs A env ρ σ s _ X pos hA hks R r hw) (fun ys s₁ h₁ => ?_) fun _ _ q => q)
      obtain ⟨vs, σ₁, hq, rs, st, hl⟩ := h₁
      exact PySem.wpAny_newObj_type (EPost.trans st (newTuple_s st.hr (by omega) rs hq s₁.toks)) (by show ys.toArray.size ≤ sizeLine; rw [List.size_toArray, sizeLine_is]; omega)
  | List es pos =>
    rw [cE_List] at h
    split at h
    · cases h
    · simp only [Option.map_eq_some_iff] at h
      obtain ⟨xs, hxs, rfl⟩ := h
      rename_i hlen
      refine PyProof.Rows.List_ (PySem.wpAny_mono (IEs ks es xs hxs A env ρ σ s _ X pos hA hks R r hw) (fun ys s₁ h₁ => ?_) fun _ _ q => q)
      obtain ⟨vs, σ₁, hq, rs, st, hl⟩ := h₁
      exact PySem.wpAny_newObj_type (EPost.trans st (newList_s st.hr (by omega) rs hq s₁.toks)) (by show ys.toArray.size ≤ sizeLine; rw [List.size_toArray, sizeLine_is]; omega)
  | Dict keys vals pos =>
    rw [cE_Dict] at h
    split at h
    · simp only [Option.some.injEq] at h; subst h
      refine PySem.wpAny_Dict_empty ?_
      exact ⟨_, _, hw _ r.fresh', .ref _, r.new (size_none _) (fun b o e => PySem.Heap.get?_push_of_some _ e) (.dctT (es := []) (xs := []) (des := #[]) (by simp) (PySem.Heap.get?_push_size _ rfl) rfl (by simp) (by simp) rfl .nil (by simp)) s.toks⟩
    · simp only [Option.bind_eq_bind, Option.bind_eq_some_iff, Option.pure_def, Option.some.injEq] at h
      obtain ⟨xk, hk, xv, hv, rfl⟩ := h
      exact hw.1.elim
    · cases h
  | ListComp elt gens sc pos =>
    rw [PySem.eval_ListComp]
    refine sComp T (fun m hm => IE m (by omega)) (fun m hm => IT m (by omega)) h hA hks R r hw (fun D C s' hE => ?_) _
    obtain ⟨vs, σ', items, nn, m, hK, st, hz, hd, hr, hns, hD, hC, hDC, hσD, hσC⟩ := hE
    refine ⟨m, hns, fun h' hs => ?_⟩
    have st' := st.over r hC hσC (ns_notTup hns) hs.extBut s'.toks
    exact ⟨_, _, hK D hσD, .ref D, st'.add r hD (.lst hz (hs.extBut _ _ hDC hd) (hr.mono (tups_but hs.extBut (ns_notTup hns))))⟩
  | _ => exact (no_some rfl h).elim
end
end RS

namespace RS
open PySem (Program World Shared Addr Value Obj Heap Str Around wpAny codeAny model Scope NameKind Expr Stmt FuncData cLine recursionLimit sizeLine mainGlobals builtinsNs PyData)

section
variable {W : Wd} {k n : Nat}

theorem sBoth (T : TopOk W) : ∀ n, SE W k n ∧ STr W k n := by
  intro n
  induction n using Nat.strongRecOn with
  | _ n ih =>
    have hE : SE W k n := by
      cases n with
      | zero => intro ks e x h; exact (no_some rfl h).elim
      | succ n => exact sE_step T (fun m hm => (ih m hm).1) fun m hm => (ih m hm).2
    exact ⟨hE, sT_step T (fun m hm => by
      rcases Nat.lt_or_eq_of_le hm with h | h
      · exact (ih m h).1
      · exact h ▸ hE) fun m hm => (ih m hm).2⟩

/-! ### frames -/
noncomputable def ownOf (env : PySem.Env) : List Addr := env.locals :: env.cells.filterMap fun x => env.cells.lookup x.1

structure EnvW (W : Wd) (env : PySem.Env) (ρ : Env) (σ : Hp) (s : Shared) : Prop extends EnvR W env ρ σ s.heap where
  ns : ∃ m, s.heap.Ns env.locals m
  cel : ∀ X c, env.cells.lookup X = some c → ∃ v, s.heap.IsCell c v
  own : ∀ b ∈ ownOf env, σ b = none ∧ W.s₀.heap.get? b = none ∧ ∃ o, s.heap.get? b = some o ∧ ¬ isTup o
  apart : ∀ X Y c, env.cells.lookup X = some c → env.cells.lookup Y = some c → X = Y
  neL : ∀ X c, env.cells.lookup X = some c → c ≠ env.locals

theorem lookup_own {env : PySem.Env} {X : Str} {c : Addr} (h : env.cells.lookup X = some c) : c ∈ ownOf env :=
  List.mem_cons_of_mem _ (List.mem_filterMap.mpr ⟨_, PySem.mem_of_lookup h, h⟩)

theorem EnvW.step {env : PySem.Env} {ρ : Env} {σ σ' : Hp} {s s' : Shared} (x : EnvW W env ρ σ s) (r : HR W σ s) (st : Step W [] σ s σ' s') : EnvW W env ρ σ' s' where
  toEnvR := x.toEnvR.step r st
  ns := by
    obtain ⟨m, o, es, ep, ho, q⟩ := x.ns
    exact ⟨m, o, es, ep, (st.keep _ _ ho (x.own _ (by simp [ownOf])).1 (by simp)).1, q⟩
  cel X c h := by
    obtain ⟨v, o, ho, q⟩ := x.cel X c h
    exact ⟨v, o, (st.keep _ _ ho (x.own _ (lookup_own h)).1 (by simp)).1, q⟩
  own b hb := by
    obtain ⟨h1, h2, o, ho, hn⟩ := x.own b hb
    obtain ⟨ho', h1'⟩ := st.keep _ _ ho h1 (by simp)
    exact ⟨h1', h2, o, ho', hn⟩
  apart := x.apart
  neL := x.neL

theorem EnvW.owned {env : PySem.Env} {ρ : Env} {σ : Hp} {s : Shared} (x : EnvW W env ρ σ s) : Own (ownOf env) s.heap := fun b hb => (x.own b hb).2.2

/-- the heap's own names at a place are but one map -/
theorem ns_fun {h : Heap} {a : Addr} {m m' : Str → Option Value} (x : h.Ns a m) (y : h.Ns a m') : m = m' := by
  obtain ⟨o, es, ep, ho, hd, _, hm⟩ := x
  obtain ⟨o', es', ep', ho', hd', _, hm'⟩ := y
  rw [ho] at ho'; cases ho'
  rw [hd] at hd'; cases hd'
  funext z; rw [← hm, ← hm']

theorem EnvW.setLocal {env : PySem.Env} {ρ : Env} {σ : Hp} {s : Shared} {x : String} {u : V} {y : Value} {h' : Heap} {m : Str → Option Value} (R : EnvW W env ρ σ s) (r : HR W σ s) (hm : s.heap.Ns env.locals m) (hk : env.scope.names.lookup (Str.ofString x) = some .local) (hu : Rep W s.heap u y)
    (hn : h'.Ns env.locals (fun z => if z = Str.ofString x then some y else m z)) (hs : PySem.Heap.SameBut env.locals s.heap h') (tk : Nat) :
    EnvW W env (ρ.set x u) σ { s with heap := h', toks := tk } ∧ Step W (ownOf env) σ s σ { s with heap := h', toks := tk } := by
  have hL : env.locals ∈ ownOf env := by simp [ownOf]
  obtain ⟨hσ, hb, oL, eL, nL⟩ := R.own _ hL
  have kx := hs.extBut
  have kt := tups_but kx ⟨oL, eL, nL⟩
  obtain ⟨o', eo', no'⟩ := ns_notTup hn
  refine ⟨⟨⟨R.kind, R.glob, R.blt, fun z v hz h0 => ⟨fun hl => ?_, fun hc => ?_⟩, R.cells⟩, ⟨_, hn⟩, fun X c hX => ?_, fun b hb' => ?_, R.apart, R.neL⟩, r.mine hL R.owned hσ hb kx eo' no' tk⟩
  · by_cases hzx : z = x
    · subst hzx
      rw [Env.set_same] at hz; cases hz
      exact ⟨_, y, hn, by simp, hu.mono kt, hσ⟩
    · rw [Env.set_ne _ _ hzx] at hz
      obtain ⟨m', y', hn', hm', hr', _⟩ := (R.var z v hz h0).1 hl
      have := ns_fun hm hn'; subst this
      exact ⟨_, y', hn, by rw [if_neg fun e => hzx (Str.ofString_inj e)]; exact hm', hr'.mono kt, hσ⟩
  · have hzx : z ≠ x := fun e => by subst e; rw [hk] at hc; rcases hc with hc | hc <;> cases hc
    rw [Env.set_ne _ _ hzx] at hz
    obtain ⟨c, y', hl, ⟨o, ho, hd⟩, hr', hs'⟩ := (R.var z v hz h0).2 hc
    exact ⟨c, y', hl, ⟨o, kx _ _ (R.neL _ _ hl) ho, hd⟩, hr'.mono kt, hs'⟩
  · obtain ⟨v, o, ho, hd⟩ := R.cel X c hX
    exact ⟨v, o, kx _ _ (R.neL _ _ hX) ho, hd⟩
  · obtain ⟨h1, h2, o, ho, hn''⟩ := R.own b hb'
    by_cases hbL : b = env.locals
    · subst hbL; exact ⟨h1, h2, o', eo', no'⟩
    · exact ⟨h1, h2, o, kx _ _ hbL ho, hn''⟩

theorem cell_notTup {h : Heap} {c : Addr} {v : Option Value} (x : h.IsCell c v) : ∃ o, h.get? c = some o ∧ ¬ isTup o := by
  obtain ⟨o, ho, hd⟩ := x
  exact ⟨o, ho, fun ⟨_, _, _, q⟩ => by rw [hd] at q; cases q⟩

theorem EnvW.setCell {env : PySem.Env} {ρ : Env} {σ : Hp} {s : Shared} {x : String} {u : V} {y : Value} {h' : Heap} {c : Addr} (R : EnvW W env ρ σ s) (r : HR W σ s) (hc : env.cells.lookup (Str.ofString x) = some c) (hk : env.scope.names.lookup (Str.ofString x) = some .cell) (hu : Rep W s.heap u y)
    (hn : h'.IsCell c (some y)) (hs : PySem.Heap.SameBut c s.heap h') (tk : Nat) :
    EnvW W env (ρ.set x u) σ { s with heap := h', toks := tk } ∧ Step W (ownOf env) σ s σ { s with heap := h', toks := tk } := by
  have hL : c ∈ ownOf env := lookup_own hc
  obtain ⟨hσ, hb, oL, eL, nL⟩ := R.own _ hL
  have kx := hs.extBut
  have kt := tups_but kx ⟨oL, eL, nL⟩
  obtain ⟨o', eo', no'⟩ := cell_notTup hn
  have hcL : env.locals ≠ c := fun e => R.neL _ _ hc e.symm
  refine ⟨⟨⟨R.kind, R.glob, R.blt, fun z v hz h0 => ⟨fun hl => ?_, fun hc' => ?_⟩, R.cells⟩, ?_, fun X c' hX => ?_, fun b hb' => ?_, R.apart, R.neL⟩, r.mine hL R.owned hσ hb kx eo' no' tk⟩
  · have hzx : z ≠ x := fun e => by subst e; rw [hk] at hl; cases hl
    rw [Env.set_ne _ _ hzx] at hz
    obtain ⟨m', y', ⟨o, es, ep, ho, q⟩, hm', hr', hs'⟩ := (R.var z v hz h0).1 hl
    exact ⟨m', y', ⟨o, es, ep, kx _ _ hcL ho, q⟩, hm', hr'.mono kt, hs'⟩
  · by_cases hzx : z = x
    · subst hzx
      rw [Env.set_same] at hz; cases hz
      exact ⟨c, y, hc, hn, hu.mono kt, hσ⟩
    · rw [Env.set_ne _ _ hzx] at hz
      obtain ⟨c', y', hl, ⟨o, ho, hd⟩, hr', hs'⟩ := (R.var z v hz h0).2 hc'
      have hcc : c' ≠ c := fun e => hzx (Str.ofString_inj (R.apart _ _ _ (e ▸ hl) hc))
      exact ⟨c', y', hl, ⟨o, kx _ _ hcc ho, hd⟩, hr'.mono kt, hs'⟩
  · obtain ⟨m, o, es, ep, ho, q⟩ := R.ns
    exact ⟨m, o, es, ep, kx _ _ hcL ho, q⟩
  · by_cases hcc : c' = c
    · subst hcc; exact ⟨_, hn⟩
    · obtain ⟨v, o, ho, hd⟩ := R.cel X c' hX
      exact ⟨v, o, kx _ _ hcc ho, hd⟩
  · obtain ⟨h1, h2, o, ho, hn''⟩ := R.own b hb'
    by_cases hbL : b = c
    · subst hbL; exact ⟨h1, h2, o', eo', no'⟩
    · exact ⟨h1, h2, o, kx _ _ hbL ho, hn''⟩

/-- a name of the frame's own is stored -/
theorem store_sound {A : Around} {E : Value → Shared → Prop} {env : PySem.Env} {ρ : Env} {σ : Hp} {s : Shared} {x : String} {u : V} {y : Value} {P : Unit → Shared → Prop} (R : EnvW W env ρ σ s) (r : HR W σ s) (hx : isOwn env.scope.names (Str.ofString x) = true) (hu : Rep W s.heap u y)
    (h : ∀ s', EnvW W env (ρ.set x u) σ s' → Step W (ownOf env) σ s σ s' → P () s') : wpAny (model W.prog W.w) A (PySem.storeName env (Str.ofString x) y) P E s := by
  cases hk : env.scope.names.lookup (Str.ofString x) with
  | none => simp [isOwn, hk] at hx
  | some kd =>
    cases kd with
    | «local» =>
      obtain ⟨m, hm⟩ := R.ns
      refine PySem.wpAny_storeName_local hk hm (fun h' hn hs => ?_) (by rw [R.kind]; rfl)
      obtain ⟨a, b⟩ := R.setLocal r hm hk hu hn hs (s.toks + 1)
      exact h _ a b
    | cell =>
      obtain ⟨c, hc⟩ := R.cells _ hk
      obtain ⟨v, hv⟩ := R.cel _ _ hc
      refine PySem.wpAny_storeName_cell R.kind hk hc hv fun h' hn hs => ?_
      obtain ⟨a, b⟩ := R.setCell r hc hk hu hn hs s.toks
      exact h _ a b
    | _ => simp [isOwn, hk] at hx

/-- the post of a statement -/
noncomputable def SPost (W : Wd) (env : PySem.Env) (σ : Hp) (s : Shared) (N : NP) (Rt : VP) : PySem.Flow → Shared → Prop := fun f s' => match f with
  | .next => ∃ ρ' σ', N ρ' σ' ∧ EnvW W env ρ' σ' s' ∧ Step W (ownOf env) σ s σ' s'
  | .ret v => ∃ u σ', Rt u σ' ∧ Rep W s'.heap u v ∧ Step W (ownOf env) σ s σ' s'
  | _ => False

theorem SPost.trans {env : PySem.Env} {σ σ' : Hp} {s s' : Shared} {N : NP} {Rt : VP} (st : Step W (ownOf env) σ s σ' s') {f : PySem.Flow} {s'' : Shared} (h : SPost W env σ' s' N Rt f s'') : SPost W env σ s N Rt f s'' := by
  cases f with
  | next => obtain ⟨ρ', τ, hN, hE, st'⟩ := h; exact ⟨ρ', τ, hN, hE, st.trans st'⟩
  | ret v => obtain ⟨u, τ, hR, hr, st'⟩ := h; exact ⟨u, τ, hR, hr, st.trans st'⟩
  | _ => exact h

theorem EnvW.weak {env : PySem.Env} {ρ : Env} {σ σ' : Hp} {s s' : Shared} (x : EnvW W env ρ σ s) (st : Step W [] σ s σ' s') : Step W (ownOf env) σ s σ' s' := st.weak fun b hb => let ⟨_, _, o, ho, _⟩ := x.own b hb; ⟨o, ho⟩

noncomputable def SS (W : Wd) (k n : Nat) : Prop := ∀ ks st x, compS n ks st = some x → ∀ A env ρ σ s N Rt X, Room A k → env.scope.names = ks → EnvW W env ρ σ s → HR W σ s → wpS (glb W k) x ρ σ N Rt X → (∀ c ρ σ, ¬ X c ρ σ) →
  wpAny (model W.prog W.w) A (PySem.exec st env) (SPost W env σ s N Rt) XF s
noncomputable def SSs (W : Wd) (k n : Nat) : Prop := ∀ ks st x, compSs n ks st = some x → ∀ A env ρ σ s N Rt X, Room A k → env.scope.names = ks → EnvW W env ρ σ s → HR W σ s → wpSs (glb W k) x ρ σ N Rt X → (∀ c ρ σ, ¬ X c ρ σ) →
  wpAny (model W.prog W.w) A (PySem.execs st env) (SPost W env σ s N Rt) XF s

theorem sSs_of (IS : ∀ m, m < n → SS W k m) : SSs W k n := by
  induction n with
  | zero => intro ks st x h; simp [cSs_zero, cSs_nil, cSs_cons] at h
  | succ n ih =>
    intro ks st x h A env ρ σ s N Rt X hA hks R r hw hX
    cases st with
    | nil =>
      simp only [cSs_zero, cSs_nil, cSs_cons, Option.some.injEq] at h; subst h
      exact PySem.wpAny_execs_nil ⟨ρ, σ, hw, R, .refl r⟩
    | cons st ss =>
      simp only [cSs_zero, cSs_nil, cSs_cons, Option.bind_eq_bind, Option.bind_eq_some_iff, Option.pure_def, Option.some.injEq] at h
      obtain ⟨x₁, hx₁, xs, hxs, rfl⟩ := h
      refine PySem.wpAny_execs_cons (PySem.wpAny_mono (IS n (Nat.lt_succ_self n) ks st x₁ hx₁ A env ρ σ s _ Rt X hA hks R r hw hX) (fun f s₁ h₁ => ?_) fun _ _ q => q)
      cases f with
      | next =>
        obtain ⟨ρ₁, σ₁, hw₁, R₁, st₁⟩ := h₁
        exact PySem.wpAny_mono (ih (fun m hm => IS m (by omega)) ks ss xs hxs A env ρ₁ σ₁ s₁ N Rt X hA hks R₁ st₁.hr hw₁ hX) (fun _ _ q => SPost.trans st₁ q) fun _ _ q => q
      | ret v => exact h₁
      | _ => exact h₁

end
end RS

namespace RS
open PySem (Program World Shared Addr Value Obj Heap Str Around wpAny codeAny model Scope NameKind Expr Stmt FuncData cLine recursionLimit sizeLine mainGlobals builtinsNs PyData)

section
variable {W : Wd} {k n : Nat}

/-- an object that was not there is changed -/
theorem Step.overO {own : List Addr} {σ σ' : Hp} {s s' : Shared} {C : Addr} {h' : Heap} (g : Step W own σ s σ' s') (r : HR W σ s) (hn : s.heap.get? C = none) (hσ : σ' C = none) (hC : ∃ o, s'.heap.get? C = some o ∧ ¬ isTup o) (k : PySem.Heap.ExtBut C s'.heap h') (tk : Nat) :
    Step W own σ s σ' { s' with heap := h', toks := tk } := by
  have ne : ∀ b o, s.heap.get? b = some o → b ≠ C := fun b o e q => by subst q; rw [hn] at e; cases e
  have kt := tups_but k hC
  refine ⟨⟨g.hr.at h' tk, fun b o e => ⟨k b o (ne b o (r.base b o e).1) (g.hr.base b o e).1, (g.hr.base b o e).2⟩, fun a c hc => (g.hr.cell a c hc).mono kt fun o e => k a o (fun q => by subst q; rw [hσ] at hc; cases hc) e⟩, fun b o e h hb => ?_, fun b o e => ?_, g.mine⟩
  · obtain ⟨e', h'⟩ := g.keep b o e h hb; exact ⟨k b o (ne b o e) e', h'⟩
  · obtain ⟨o', e', q⟩ := g.live b o e; exact ⟨o', k b o' (ne b o e) e', q⟩

theorem EnvW.ext {env : PySem.Env} {ρ : Env} {σ : Hp} {s : Shared} {I : Addr} {h' : Heap} (R : EnvW W env ρ σ s) (kx : PySem.Heap.ExtBut I s.heap h') (hI : ∃ o, s.heap.get? I = some o ∧ ¬ isTup o) (hne : I ∉ ownOf env) (tk : Nat) : EnvW W env ρ σ { s with heap := h', toks := tk } := by
  have kt := tups_but kx hI
  have ne : ∀ b ∈ ownOf env, b ≠ I := fun b hb q => hne (q ▸ hb)
  have neL : env.locals ≠ I := ne _ (by simp [ownOf])
  refine ⟨⟨R.kind, R.glob, R.blt, fun z v hz h0 => ⟨fun hl => ?_, fun hc => ?_⟩, R.cells⟩, ?_, fun X c hX => ?_, fun b hb => ?_, R.apart, R.neL⟩
  · obtain ⟨m, y, ⟨o, es, ep, ho, q⟩, hm, hr, hs⟩ := (R.var z v hz h0).1 hl
    exact ⟨m, y, ⟨o, es, ep, kx _ _ neL ho, q⟩, hm, hr.mono kt, hs⟩
  · obtain ⟨c, y, hl, ⟨o, ho, hd⟩, hr, hs⟩ := (R.var z v hz h0).2 hc
    exact ⟨c, y, hl, ⟨o, kx _ _ (ne _ (lookup_own hl)) ho, hd⟩, hr.mono kt, hs⟩
  · obtain ⟨m, o, es, ep, ho, q⟩ := R.ns
    exact ⟨m, o, es, ep, kx _ _ neL ho, q⟩
  · obtain ⟨v, o, ho, hd⟩ := R.cel X c hX
    exact ⟨v, o, kx _ _ (ne _ (lookup_own hX)) ho, hd⟩
  · obtain ⟨h1, h2, o, ho, hn⟩ := R.own b hb
    exact ⟨h1, h2, o, kx _ _ (ne b hb) ho, hn⟩

theorem for_sound (IS : SSs W k n) {x : String} {px : PySem.Pos} {body : List Stmt} {xb : List S} {ks : Ks} {A : Around} {env : PySem.Env} {ρ : Env} {σ : Hp} {s s₂ : Shared} {N : NP} {Rt : VP} {X : XPS} {σ₁ : Hp} {I : Addr} {items : List V} {chk : Hp → Prop} {St : Nat → Heap → Prop} {E : Value → Shared → Prop}
    (hcb : compSs n ks body = some xb) (hA : Room A k) (hks : env.scope.names = ks) (hx : isOwn ks (Str.ofString x) = true) (R : EnvW W env ρ σ s) (r : HR W σ s) (hX : ∀ c ρ σ, ¬ X c ρ σ)
    (hit : Iter W A I items chk St) (hst : St 0 s₂.heap) (hσI : σ₁ I = none) (hI : s.heap.get? I = none) (st : Step W [] σ s σ₁ s₂)
    (hw : forL (fun v ρ₁ σ₂ N' => wpSs (glb W k) xb (ρ₁.set x v) σ₂ N' Rt X) chk items ρ σ₁ N) :
    codeAny (model W.prog W.w) A (.forLoop (.Name (Str.ofString x) px) (.ref I) body [] env) (fun rr s' => match rr with | .ok f => SPost W env σ s N Rt f s' | .error e => PySem.cameBackBy (model W.prog W.w) A env E e s') s₂ := by
  have hne : I ∉ ownOf env := fun q => by obtain ⟨_, _, o, ho, _⟩ := R.own I q; rw [hI] at ho; cases ho
  refine PySem.codeAny_forLoop_any (fun q s' => ∃ i ρ' σ', q = items.length - i ∧ i ≤ items.length ∧ EnvW W env ρ' σ' s' ∧ Step W (ownOf env) σ s σ' s' ∧ St i s'.heap ∧ σ' I = none ∧
      forL (fun v ρ₁ σ₂ N' => wpSs (glb W k) xb (ρ₁.set x v) σ₂ N' Rt X) chk (items.drop i) ρ' σ' N) ?_ items.length
    ⟨0, ρ, σ₁, rfl, Nat.zero_le _, R.step r st, R.weak st, hst, hσI, by simpa using hw⟩
  rintro q s' ⟨i, ρ', σ', rfl, hi, R', g, hst, hσI, hw⟩
  have hIt := hit.it _ _ hst
  cases hdr : items.drop i with
  | nil =>
    rw [hdr] at hw
    obtain ⟨hchk, hN⟩ := hw
    have hil' : i = items.length := by
      have : (items.drop i).length = 0 := by rw [hdr]; rfl
      rw [List.length_drop] at this; omega
    rw [hil'] at hst
    refine hit.done s' σ' _ _ hst g.hr hchk fun h' tk kx => ?_
    exact PySem.wpAny_execs_nil ⟨ρ', σ', hN, R'.ext kx hIt hne tk, g.overO r hI hσI hIt kx tk⟩
  | cons v vs =>
    rw [hdr] at hw
    obtain ⟨hchk, hw⟩ := hw
    have hv : items[i]? = some v := by
      have : (items.drop i)[0]? = some v := by rw [hdr]; rfl
      simpa using this
    have hlt : i < items.length := (List.getElem?_eq_some_iff.mp hv).1
    have hdr' : items.drop (i + 1) = vs := by rw [← List.tail_drop, hdr]; rfl
    refine hit.item i s' σ' v _ _ hv hst g.hr hchk fun xv h₁ tk₁ rx hst₁ kx => ?_
    have g₁ := g.overO r hI hσI hIt kx tk₁
    have R₁ := R'.ext kx hIt hne tk₁
    refine PySem.wpAny_pure (PySem.wpAny_assign_Name (store_sound R₁ g₁.hr (by rw [hks]; exact hx) rx fun s₃ R₃ g₃ => ?_))
    obtain ⟨oI, eI, nI⟩ := hit.it _ _ hst₁
    obtain ⟨eI₃, hσI₃⟩ := g₃.keep I _ eI hσI hne
    have hst₃ : St (i + 1) s₃.heap := hit.frame _ _ _ hst₁ (fun o e => by rw [eI] at e; cases e; exact eI₃) (g₃.tups g₁.hr R₁.owned)
    refine PySem.wpAny_mono (IS ks body xb hcb A env _ σ' s₃ _ Rt X hA hks R₃ g₃.hr hw hX) (fun f s₄ h₄ => ?_) fun _ _ q => q.elim
    cases f with
    | next =>
      obtain ⟨ρ₄, σ₄, hw₄, R₄, g₄⟩ := h₄
      obtain ⟨eI₄, hσI₄⟩ := g₄.keep I _ eI₃ hσI₃ hne
      exact ⟨items.length - (i + 1), by omega, i + 1, ρ₄, σ₄, rfl, hlt, R₄, (g₁.trans g₃).trans g₄, hit.frame _ _ _ hst₃ (fun o e => by rw [eI₃] at e; cases e; exact eI₄) (g₄.tups g₃.hr R₃.owned), hσI₄, by rw [hdr']; exact hw₄⟩
    | ret u => exact SPost.trans (g₁.trans g₃) h₄
    | brk => exact h₄.elim
    | cont => exact h₄.elim

theorem while_sound (IT : STr W k n) (IS : SSs W k n) {test : Expr} {body : List Stmt} {xt : RS.X} {xb : List S} {ks : Ks} {A : Around} {env : PySem.Env} {ρ : Env} {σ : Hp} {s : Shared} {N : NP} {Rt : VP} {X : XPS} {E : Value → Shared → Prop} {fuel : Nat}
    (hct : compE n ks test = some xt) (hcb : compSs n ks body = some xb) (hA : Room A k) (hks : env.scope.names = ks) (R : EnvW W env ρ σ s) (r : HR W σ s) (hX : ∀ c ρ σ, ¬ X c ρ σ)
    (hw : whileL (fun ρ₁ σ₁ Q => wpT (glb W k) xt ρ₁ σ₁ Q fun x σ' => X x ρ₁ σ') (fun ρ₁ σ₁ N' => wpSs (glb W k) xb ρ₁ σ₁ N' Rt X) fuel ρ σ N) :
    codeAny (model W.prog W.w) A (.whileLoop test body [] env) (fun rr s' => match rr with | .ok f => SPost W env σ s N Rt f s' | .error e => PySem.cameBackBy (model W.prog W.w) A env E e s') s := by
  refine PySem.codeAny_whileLoop (fun q s' => ∃ ρ' σ', EnvW W env ρ' σ' s' ∧ Step W (ownOf env) σ s σ' s' ∧
      whileL (fun ρ₁ σ₁ Q => wpT (glb W k) xt ρ₁ σ₁ Q fun x σ' => X x ρ₁ σ') (fun ρ₁ σ₁ N' => wpSs (glb W k) xb ρ₁ σ₁ N' Rt X) q ρ' σ' N) ?_ fuel
    ⟨ρ, σ, R, .refl r, hw⟩
  rintro q s' ⟨ρ', σ', R', g, hw⟩
  cases q with
  | zero => exact hw.elim
  | succ q =>
    have hw' : wpE (glb W k) xt ρ' σ' (fun v σ₁ => ∃ b, truth v = some b ∧ if b = true then wpSs (glb W k) xb ρ' σ₁ (fun ρ'' σ'' => whileL (fun ρ₁ σ₁ Q => wpT (glb W k) xt ρ₁ σ₁ Q fun x σ' => X x ρ₁ σ') (fun ρ₁ σ₁ N' => wpSs (glb W k) xb ρ₁ σ₁ N' Rt X) q ρ'' σ'' N) Rt X else N ρ' σ₁) (fun x σ' => X x ρ' σ') := hw
    refine PySem.wpAny_mono (IT ks test xt hct A env ρ' σ' s' _ _ hA hks R'.toEnvR g.hr hw' fun v σ' ⟨b, hb, _⟩ => by rw [hb]; rfl) (fun b s₂ h₂ => ?_) fun _ _ q => q.elim
    obtain ⟨v, σ₂, ⟨b', hb', hw₂⟩, hb, st⟩ := h₂
    obtain rfl : b' = b := by rw [hb'] at hb; exact Option.some.inj hb
    have R₂ := R'.step g.hr st
    have g₂ := g.trans (R'.weak st)
    cases b' with
    | false => exact PySem.wpAny_execs_nil ⟨ρ', σ₂, by simpa using hw₂, R₂, g₂⟩
    | true =>
      simp only [if_true] at hw₂ ⊢
      refine PySem.wpAny_mono (IS ks body xb hcb A env _ σ₂ s₂ _ Rt X hA hks R₂ g₂.hr hw₂ hX) (fun f s₄ h₄ => ?_) fun _ _ q => q.elim
      cases f with
      | next =>
        obtain ⟨ρ₄, σ₄, hw₄, R₄, g₄⟩ := h₄
        exact ⟨q, Nat.lt_succ_self q, ρ₄, σ₄, R₄, g₂.trans g₄, hw₄⟩
      | ret u => exact SPost.trans g₂ h₄
      | brk => exact h₄.elim
      | cont => exact h₄.elim

theorem swaps_no {value : Expr} {t : Option Expr} {line : Nat} {env : PySem.Env} (h : isComp value = false) : PySem.swapsWith value t line env = pure false := by
  cases value <;> first | rfl | (simp [isComp] at h)
theorem swaps_is (value : Expr) (x : Str) (p : PySem.Pos) (line : Nat) (env : PySem.Env) : ∃ b, PySem.swapsWith value (some (.Name x p)) line env = pure b := by
  cases value <;> exact ⟨_, rfl⟩
theorem swaps_sub (value o i : Expr) (p : PySem.Pos) (line : Nat) (env : PySem.Env) : PySem.swapsWith value (some (.Subscript o i p)) line env = pure false := by
  cases value <;> rfl

/-- a name is given a value -/
theorem assign_var (T : TopOk W) {x : String} {px : PySem.Pos} {value : Expr} {pos : PySem.Pos} {xv : RS.X} {ks : Ks} {A : Around} {env : PySem.Env} {ρ : Env} {σ : Hp} {s : Shared} {N : NP} {Rt : VP} {X : XP} (hc : compE n ks value = some xv) (hx : isOwn ks (Str.ofString x) = true) (hA : Room A k) (hks : env.scope.names = ks) (R : EnvW W env ρ σ s) (r : HR W σ s)
    (hw : wpE (glb W k) xv ρ σ (fun v σ₁ => N (ρ.set x v) σ₁) X) :
    wpAny (model W.prog W.w) A (PySem.exec (.Assign [.Name (Str.ofString x) px] value pos) env) (SPost W env σ s N Rt) XF s := by
  have plain : PySem.swapsWith value (some (.Name (Str.ofString x) px)) pos.line env = pure false → wpAny (model W.prog W.w) A (PySem.exec (.Assign [.Name (Str.ofString x) px] value pos) env) (SPost W env σ s N Rt) XF s := by
    intro hs
    rw [PySem.exec_Assign_Name env _ _ _ _ hs]
    refine PySem.wpAny_bind (PySem.wpAny_standAt (PySem.wpAny_bind (PySem.wpAny_mono ((sBoth T n).1 ks value xv hc A env ρ σ s _ X hA hks R.toEnvR r hw) (fun y s₁ h₁ => ?_) fun _ _ q => q)))
    obtain ⟨v, σ₁, hN, rv, st⟩ := h₁
    refine PySem.wpAny_bind (PySem.wpAny_standAt (PySem.wpAny_bind (PySem.wpAny_bindName (store_sound (R.step r st) st.hr (by rw [hks]; exact hx) rv fun s₂ R₂ g₂ => PySem.wpAny_pure ?_))))
    exact ⟨_, σ₁, hN, R₂, (R.weak st).trans g₂⟩
  obtain ⟨b, hs⟩ := swaps_is value (Str.ofString x) px pos.line env
  cases b with
  | false => exact plain hs
  | true =>
    cases value with
    | ListComp elt gens sc cpos =>
      cases n with
      | zero => exact (no_some rfl hc).elim
      | succ n =>
      rw [PySem.exec_Assign_Name_used _ _ _ _ hs]
      refine PySem.wpAny_bind (PySem.wpAny_standAt (PySem.wpAny_bind ?_))
      show wpAny _ A (do let _ ← PySem.comprehension (.ListComp elt gens sc cpos) sc env _ (PySem.newList []) (PySem.firstAsync gens) (PySem.firstIter gens env) (some (PySem.assign (.Name (Str.ofString x) px) env))) _ _ s
      refine PySem.wpAny_bind (PySem.wpAny_mono (sComp (Q' := fun _ s' => SPost W env σ s N Rt .next s') T (fun m _ => (sBoth T m).1) (fun m _ => (sBoth T m).2) hc hA hks R.toEnvR r hw (fun D C s' hE => ?_) _) (fun _ s' hq => PySem.wpAny_pure (PySem.wpAny_pure hq)) fun _ _ e => e)
      obtain ⟨vs, σ', items, nn, m, hK, st, hz, hd, hr, hns, hD, hC, hDC, hσD, hσC⟩ := hE
      have R' := R.step r st
      have inOwn : ∀ b, s.heap.get? b = none → b ∉ ownOf env := fun b hb q => by obtain ⟨_, _, o, ho, _⟩ := R.own b q; rw [hb] at ho; cases ho
      have st₁ := st.add r hD (.lst hz hd hr)
      have R₁ := R.step r st₁
      show wpAny _ A (PySem.assign (.Name (Str.ofString x) px) env (.ref D)) _ _ _
      refine PySem.wpAny_assign_Name (store_sound R₁ st₁.hr (by rw [hks]; exact hx) (.ref D) fun s₂ R₂ g₂ => ?_)
      obtain ⟨o, es, ep, ho, q⟩ := hns
      have hσC₁ : (σ'.set D (.lst vs)) C = none := by rw [Hp.set_ne _ _ (Ne.symm hDC)]; exact hσC
      obtain ⟨ho₂, hσC₂⟩ := g₂.keep C _ ho hσC₁ (inOwn C hC)
      refine ⟨m, ⟨o, es, ep, ho₂, q⟩, fun h₃ hs₃ => ?_⟩
      have hCt : ∃ o, s₂.heap.get? C = some o ∧ ¬ isTup o := ⟨o, ho₂, notTup_dict q.1⟩
      exact ⟨_, _, hK D hσD, R₂.ext hs₃.extBut hCt (inOwn C hC) s₂.toks, ((R.weak st₁).trans g₂).overO r hC hσC₂ hCt hs₃.extBut s₂.toks⟩
    | SetComp => cases n <;> exact (no_some rfl hc).elim
    | DictComp => cases n <;> exact (no_some rfl hc).elim
    | _ => exact plain rfl

theorem Reps.set {h : Heap} : ∀ {vs : List V} {xs : List Value} {i : Nat} {v : V} {x : Value}, Reps W h vs xs → Rep W h v x → Reps W h (vs.set i v) (xs.set i x)
  | _, _, _, _, _, .nil, _ => .nil
  | _, _, 0, _, _, .cons _ rs, hv => .cons hv rs
  | _, _, _ + 1, _, _, .cons r rs, hv => .cons r (rs.set hv)

theorem dput_length (es : List (List Int × V)) (k : List Int) (v : V) : (dput es k v).length ≤ es.length + 1 := by
  unfold dput; split <;> simp
theorem dput_map {h : Heap} {k : List Int} {v : V} {vv : Value} (hv : Rep W h v vv) : ∀ {es : List (List Int × V)} {xs : List (List Int × Addr × Value)}, es.map (·.1) = xs.map (·.1) → Reps W h (es.map (·.2)) (xs.map (·.2.2)) →
    (es.map fun e => if e.1 = k then (e.1, v) else e).map (·.1) = (xs.map (PySem.putAt k vv)).map (·.1) ∧ Reps W h ((es.map fun e => if e.1 = k then (e.1, v) else e).map (·.2)) ((xs.map (PySem.putAt k vv)).map (·.2.2))
  | [], [], _, _ => ⟨rfl, .nil⟩
  | [], _ :: _, e, _ => by simp at e
  | _ :: _, [], e, _ => by simp at e
  | (k₁, u) :: es, (k₂, p) :: xs, e, q => by
    simp only [List.map_cons, List.cons.injEq] at e
    obtain ⟨rfl, e⟩ := e
    simp only [List.map_cons] at q
    cases q with
    | cons q qs =>
      obtain ⟨h1, h2⟩ := dput_map hv e qs
      simp only [List.map_cons]
      by_cases hk : k₁ = k
      · have e1 : (if (k₁, u).1 = k then ((k₁, u).1, v) else (k₁, u)) = (k₁, v) := if_pos hk
        have e2 : PySem.putAt k vv (k₁, p) = (k₁, p.1, vv) := if_pos hk
        rw [e1, e2, h1]
        exact ⟨rfl, .cons hv h2⟩
      · have e1 : (if (k₁, u).1 = k then ((k₁, u).1, v) else (k₁, u)) = (k₁, u) := if_neg hk
        have e2 : PySem.putAt k vv (k₁, p) = (k₁, p) := if_neg hk
        rw [e1, e2, h1]
        exact ⟨rfl, .cons q h2⟩
theorem dput_stored {h : Heap} {es : List (List Int × V)} {xs : List (List Int × Addr × Value)} (m : es.map (·.1) = xs.map (·.1)) (q : Reps W h (es.map (·.2)) (xs.map (·.2.2))) (k : List Int) (b : Addr) {v : V} {vv : Value} (hv : Rep W h v vv) :
    (dput es k v).map (·.1) = (PySem.storedH xs k b vv).map (·.1) ∧ Reps W h ((dput es k v).map (·.2)) ((PySem.storedH xs k b vv).map (·.2.2)) := by
  unfold dput PySem.storedH
  rw [dget_isSome m q k]
  split
  · exact dput_map hv m q
  · simp only [List.map_append, List.map_cons, List.map_nil]
    exact ⟨by rw [m], q.append (.one hv)⟩

/-- an item is given a value -/
theorem setItem_sound (T : TopOk W) {A : Around} {E : Value → Shared → Prop} {σ : Hp} {s : Shared} {o i v : V} {ov iv vv : Value} {N : Hp → Prop} {P : Unit → Shared → Prop} (hA : Room A k) (r : HR W σ s) (ho : Rep W s.heap o ov) (hi : Rep W s.heap i iv) (hv : Rep W s.heap v vv) (hw : storeP o i v σ N)
    (h : ∀ σ' s', N σ' → Step W [] σ s σ' s' → P () s') : wpAny (model W.prog W.w) A (PySem.setItem ov iv vv) P E s := by
  unfold storeP at hw
  split at hw
  · rename_i a
    cases ho.ref_inv
    split at hw
    · rename_i vs ha
      split at hw
      · rename_i kk
        obtain ⟨⟨h0, h1⟩, hN⟩ := hw
        obtain ⟨t, rfl⟩ := hi.int_inv
        obtain ⟨items, nn, z, e, q⟩ := r.lst ha
        have hle := q.length; simp only [Array.length_toList] at hle
        refine PySem.W.ki_setAt (n := nn) e h0 (by omega) (by omega) (h _ _ hN ?_)
        refine lst_upd r ha e _ rfl ?_ ?_ s.toks
        · rw [Array.toList_setIfInBounds, List.length_set, Array.length_toList]; omega
        · rw [Array.toList_setIfInBounds]
          exact q.set hv
      · exact hw.elim
    · rename_i es ep ha
      obtain ⟨kk, ⟨hk, hl⟩, hN⟩ := hw
      obtain ⟨des, xs, z, e, d, is, n, m, q, rk⟩ := r.dctK ha
      obtain ⟨b, rfl, kb⟩ := key_tuple hk hi
      have hlen : es.length = xs.length := by have := congrArg List.length m; simpa using this
      have hxl : xs.length ≤ 1000000 := by unfold lenOk at hl; omega
      refine PySem.wpAny_setItem_heap (PySem.tupleKind_room_in1 (by have := hA.units; omega)) kb ⟨_, _, _, e, ⟨rfl, rfl, rfl⟩, rfl, d, is, n⟩ (fun h' hm' hs' => ?_) (by rw [sizeLine_is]; omega)
      obtain ⟨o', des', ep', ho', ⟨c1, c2, c3⟩, hd', dd, is', n'⟩ := hm'
      have ho'' : h'.get? a = some { cls := .type "dict", data := .dict des' ep' } := by
        rw [ho']; cases o'; simp only at c1 c2 c3 hd'; subst c1 c2 c3 hd'; rfl
      have kt : TupKeep s.heap h' := tups_but hs'.extBut ⟨_, e, notTup_cls (by simp)⟩
      obtain ⟨m', q'⟩ := dput_stored m (q.mono kt) kk b (hv.mono kt)
      refine h _ _ (hN ep') (r.upd ha hs'.extBut (.dctT ?_ ho'' dd is' n' m' q' fun x hx => ?_) _ [])
      · have : (PySem.storedH xs kk b vv).length = (dput es kk v).length := by have := congrArg List.length m'; simpa using this.symm
        rw [this]
        have := dput_length es kk v
        omega
      · rcases PyProof.Rows.mem_storedH hx with ⟨y, hy, e1, e2⟩ | ⟨e1, e2⟩
        · rw [e1, e2]; exact (rk y hy).mono kt
        · rw [e1, e2, ← V.key_of hk]; exact hi.mono kt
    · exact hw.1.elim
    · exact hw.elim
  · exact hw.elim

theorem sS_step (T : TopOk W) (IS : ∀ m, m < n + 1 → SS W k m) : SS W k (n + 1) := by
  have I0 : SE W k n := (sBoth T n).1
  have IT : STr W k n := (sBoth T n).2
  have ISs : SSs W k n := sSs_of fun m hm => IS m (by omega)
  intro ks st x h A env ρ σ s N Rt X hA hks R r hw hX
  cases st with
  | Return e pos =>
    cases e with
    | none => exact (no_some rfl h).elim
    | some e =>
      simp only [cS_Return, Option.map_eq_some_iff] at h
      obtain ⟨xe, hxe, rfl⟩ := h
      refine PySem.wpAny_Return_some (PySem.wpAny_mono (I0 ks e xe hxe A env ρ σ s _ _ hA hks R.toEnvR r hw) (fun y s₁ h₁ => ?_) fun _ _ q => q)
      obtain ⟨v, σ₁, hq, rv, st⟩ := h₁
      exact ⟨v, σ₁, hq, rv, R.weak st⟩
  | Expr e pos =>
    rw [cS_Expr] at h
    split at h
    · cases h
    · rename_i hc
      simp only [Option.map_eq_some_iff] at h
      obtain ⟨xe, hxe, rfl⟩ := h
      rw [PySem.exec_Expr env e pos (by unfold PySem.interactive; rw [R.kind]; rfl) (swaps_no (by simpa using hc))]
      refine PySem.wpAny_bind (PySem.wpAny_standAt (PySem.wpAny_bind (PySem.wpAny_mono (I0 ks e xe hxe A env ρ σ s _ _ hA hks R.toEnvR r hw) (fun y s₁ h₁ => ?_) fun _ _ q => q)))
      obtain ⟨v, σ₁, hq, rv, st⟩ := h₁
      exact PySem.wpAny_dropValue ⟨ρ, σ₁, hq, R.step r st, R.weak st⟩
  | Assign ts v pos =>
    cases ts with
    | nil => exact (no_some rfl h).elim
    | cons t ts =>
      cases ts with
      | cons _ _ => exact (no_some rfl h).elim
      | nil =>
        rw [cS_Assign] at h
        split at h
        · cases h
        · rename_i htt
          simp only [Option.bind_eq_bind, Option.bind_eq_some_iff, Option.pure_def, Option.some.injEq] at h
          obtain ⟨xt, hxt, xv, hxv, rfl⟩ := h
          cases t with
          | Name y py =>
            simp only [compT] at hxt
            split at hxt
            · rename_i hy
              simp only [Option.map_eq_some_iff] at hxt
              obtain ⟨y', hy', rfl⟩ := hxt
              cases nm_is hy'
              exact assign_var T hxv hy hA hks R r hw
            · cases hxt
          | Subscript o i p =>
            have hxt' : ∃ xo xi, compE n ks o = some xo ∧ compE n ks i = some xi ∧ xt = .idx xo xi ∧ (∀ a b c d, i ≠ .Slice a b c d) := by
              cases i <;> simp only [compT, Option.bind_eq_bind, Option.bind_eq_some_iff, Option.pure_def, Option.some.injEq, reduceCtorEq] at hxt <;>
              · obtain ⟨xo, hxo, xi, hxi, rfl⟩ := hxt
                exact ⟨xo, xi, hxo, hxi, rfl, by intros; simp⟩
            obtain ⟨xo, xi, hxo, hxi, rfl, hsl⟩ := hxt'
            rw [PySem.exec_Assign_Subscript _ _ _ _ _ (swaps_sub v o i p pos.line env)]
            refine PySem.wpAny_bind (PySem.wpAny_standAt (PySem.wpAny_bind (PySem.wpAny_mono (I0 ks v xv hxv A env ρ σ s _ _ hA hks R.toEnvR r hw) (fun vv s₁ h₁ => ?_) fun _ _ q => q)))
            obtain ⟨u, σ₁, hw₁, ru, st₁⟩ := h₁
            rw [PySem.assign_Subscript]
            have R₁ := R.step r st₁
            refine PySem.wpAny_bind (PySem.wpAny_bind (PySem.wpAny_holding (PySem.wpAny_mono (I0 ks o xo hxo A env ρ σ₁ s₁ _ _ hA hks R₁.toEnvR st₁.hr hw₁) (fun ov s₂ h₂ => ?_) fun _ _ q => q)))
            obtain ⟨o', σ₂, hw₂, ro, st₂⟩ := h₂
            have R₂ := R₁.step st₁.hr st₂
            refine PySem.wpAny_bind (PySem.wpAny_holding (PySem.wpAny_mono (I0 ks i xi hxi A env ρ σ₂ s₂ _ _ hA hks R₂.toEnvR st₂.hr hw₂) (fun iv s₃ h₃ => ?_) fun _ _ q => q))
            obtain ⟨i', σ₃, hw₃, ri, st₃⟩ := h₃
            have k3 := st₃.tups st₂.hr (Own.nil _)
            refine PySem.wpAny_bind (PySem.wpAny_standAt (PySem.wpAny_bind (PySem.wpAny_holding (setItem_sound T hA st₃.hr (ro.mono k3) ri ((ru.mono (st₂.tups st₁.hr (Own.nil _))).mono k3) hw₃ fun σ₄ s₄ hN st₄ => PyProof.Rows.wpAny_release' (PySem.wpAny_pure ?_)))))
            have stt := ((st₁.trans st₂).trans st₃).trans st₄
            exact ⟨ρ, σ₄, hN, R.step r stt, R.weak stt⟩
          | _ => exact (no_some rfl hxt).elim
  | If t b o pos =>
    simp only [cS_If, Option.bind_eq_bind, Option.bind_eq_some_iff, Option.pure_def, Option.some.injEq] at h
    obtain ⟨xt, hxt, xb, hxb, xo, hxo, rfl⟩ := h
    have hw' : wpE (glb W k) xt ρ σ (fun v σ₁ => ∃ b, truth v = some b ∧ if b = true then wpSs (glb W k) xb ρ σ₁ N Rt X else wpSs (glb W k) xo ρ σ₁ N Rt X) (fun x σ' => X x ρ σ') := hw
    refine PySem.wpAny_If (PySem.wpAny_mono (IT ks t xt hxt A env ρ σ s _ _ hA hks R.toEnvR r hw' fun v σ' ⟨b, hb, _⟩ => by rw [hb]; rfl) (fun b s₂ h₂ => ?_) fun _ _ q => q)
    obtain ⟨v, σ₂, ⟨b', hb', hw₂⟩, hb, st⟩ := h₂
    obtain rfl : b' = b := by rw [hb'] at hb; exact Option.some.inj hb
    have R₂ := R.step r st
    have g₂ := R.weak st
    cases b' with
    | false =>
      simp only [Bool.false_eq_true, if_false] at hw₂ ⊢
      exact PySem.wpAny_mono (ISs ks o xo hxo A env ρ σ₂ s₂ N Rt X hA hks R₂ g₂.hr hw₂ hX) (fun _ _ q => SPost.trans g₂ q) fun _ _ q => q
    | true =>
      simp only [if_true] at hw₂ ⊢
      exact PySem.wpAny_mono (ISs ks b xb hxb A env ρ σ₂ s₂ N Rt X hA hks R₂ g₂.hr hw₂ hX) (fun _ _ q => SPost.trans g₂ q) fun _ _ q => q
  | For t iter b o pos =>
    cases t with
    | Name y py =>
      cases o with
      | cons _ _ => exact (no_some rfl h).elim
      | nil =>
        rw [cS_For] at h
        split at h
        · rename_i hy
          simp only [Bool.and_eq_true, Bool.not_eq_true'] at hy
          simp only [Option.bind_eq_bind, Option.bind_eq_some_iff, Option.pure_def, Option.some.injEq] at h
          obtain ⟨y', hy', xs, hxs, xb, hxb, rfl⟩ := h
          cases nm_is hy'
          have S := sSrc_of (n := n) T fun m _ => (sBoth (k := k) T m).1
          refine PySem.wpAny_For (PySem.wpAny_mono (S ks iter xs hxs A env ρ σ s _ _ hA hks R.toEnvR r hw) (fun xv s₁ h₁ => PySem.wpAny_mono h₁ (fun it s₂ h₂ => ?_) fun _ _ q => q) fun _ _ q => q) (folded_id env hy.2)
          obtain ⟨I, items, chk, St, σ₁, rfl, hit, hst, hσI, hI, hK, st⟩ := h₂
          exact for_sound ISs hxb hA hks hy.1 R r hX hit hst hσI hI st hK
        · cases h
    | _ => exact (no_some rfl h).elim
  | While t b o pos =>
    cases o with
    | cons _ _ => exact (no_some rfl h).elim
    | nil =>
      simp only [cS_While, Option.bind_eq_bind, Option.bind_eq_some_iff, Option.pure_def, Option.some.injEq] at h
      obtain ⟨xt, hxt, xb, hxb, rfl⟩ := h
      obtain ⟨fuel, hw⟩ := hw
      exact PySem.wpAny_While (while_sound IT ISs hxt hxb hA hks R r hX hw)
  | Pass pos =>
    simp only [cS_Pass, Option.some.injEq] at h; subst h
    rw [PySem.exec_Pass]
    exact PySem.wpAny_bind (PySem.wpAny_standAt (PySem.wpAny_pure ⟨ρ, σ, hw, R, .refl r⟩))
  | _ => exact (no_some rfl h).elim

theorem sS_all (T : TopOk W) : ∀ n, SS W k n := by
  intro n
  induction n using Nat.strongRecOn with
  | _ n ih =>
    cases n with
    | zero => intro ks st x h; exact (no_some rfl h).elim
    | succ n => exact sS_step T ih
end
end RS

namespace RS
open PySem (Program World Shared Addr Value Obj Heap Str Around wpAny codeAny model Scope NameKind Expr Stmt FuncData cLine recursionLimit sizeLine mainGlobals builtinsNs PyData)

/-! ### calls -/
/-- a function of the text, as it lies and as it reads -/
noncomputable def FnOk (W : Wd) (f : String) (ps : List String) (bs : List S) : Prop := ∃ fa o fd body n, W.fn f = some fa ∧ W.s₀.heap.get? fa = some o ∧ o.data = .func fd ∧ W.s₀.heap.CodeRec fd.code fd.qualname ∧ fd.body = .stmts body ∧ fd.closure = [] ∧
  fd.globals = mainGlobals ∧ fd.builtins = builtinsNs ∧ fd.scope.isCoroutine = false ∧ fd.scope.isGenerator = false ∧ fd.scope.kind = .function ∧
  (∀ xs : List Value, xs.length = ps.length → PySem.bindArgs fd ⟨xs, []⟩ = pure ((ps.map Str.ofString).zip xs)) ∧ compSs n fd.scope.names body = some bs ∧ (∀ p ∈ ps, isOwn fd.scope.names (Str.ofString p) = true) ∧ ps.Nodup

theorem cellsFrom_lookup : ∀ (names : Ks) (n : Nat) (acc : List (Str × Addr)) (X : Str), ((X, NameKind.cell) ∈ names ∨ (acc.lookup X).isSome = true) → ((PySem.cellsFrom n names acc).lookup X).isSome = true
  | [], _, acc, X, h => h.elim (fun h => by cases h) id
  | (y, kd) :: r, n, acc, X, h => by
    unfold PySem.cellsFrom
    split
    · refine cellsFrom_lookup r _ _ X ?_
      by_cases hX : X = y
      · subst hX; right; simp
      · rcases h with h | h
        · rcases List.mem_cons.mp h with h | h
          · cases h; exact absurd rfl hX
          · exact .inl h
        · right
          have hb : (X == y) = false := by simpa using hX
          rw [List.lookup_cons, hb]; exact h
    · rename_i hk
      refine cellsFrom_lookup r _ _ X ?_
      rcases h with h | h
      · rcases List.mem_cons.mp h with h | h
        · cases h; exact absurd rfl hk
        · exact .inl h
      · exact .inr h

section
variable {W : Wd} {k : Nat}

theorem bindL_notin (kf : Str → Option NameKind) : ∀ (bs : List (Str × Value)) (m : Str → Option Value) (X : Str), X ∉ bs.map (·.1) → PySem.bindL kf bs m X = m X
  | [], _, _, _ => rfl
  | (y, v) :: r, m, X, h => by
    simp only [List.map_cons, List.mem_cons, not_or] at h
    unfold PySem.bindL
    rw [bindL_notin kf r _ X h.2]
    split
    · simp [h.1]
    · rfl
theorem bindC_notin (kf : Str → Option NameKind) : ∀ (bs : List (Str × Value)) (m : Str → Option Value) (X : Str), X ∉ bs.map (·.1) → PySem.bindC kf bs m X = m X
  | [], _, _, _ => rfl
  | (y, v) :: r, m, X, h => by
    simp only [List.map_cons, List.mem_cons, not_or] at h
    unfold PySem.bindC
    rw [bindC_notin kf r _ X h.2]
    split
    · rfl
    · simp [h.1]

theorem notin_zip {ps : List String} {xs : List Value} {x : String} (h : x ∉ ps) : Str.ofString x ∉ ((ps.map Str.ofString).zip xs).map (·.1) := fun q => by
  obtain ⟨⟨y, v⟩, hy, e⟩ := List.mem_map.mp q
  have := (List.of_mem_zip hy).1
  obtain ⟨p, hp, e'⟩ := List.mem_map.mp this
  have : p = x := Str.ofString_inj (e'.trans e)
  exact h (this ▸ hp)

theorem bind_ok (kf : Str → Option NameKind) {h : Heap} : ∀ (ps : List String) (vs : List V) (xs : List Value) (m cm : Str → Option Value), ps.Nodup → Reps W h vs xs → ∀ x v, bindP ps vs x = some v →
    ∃ y, Rep W h v y ∧ (kf (Str.ofString x) = some .local → PySem.bindL kf ((ps.map Str.ofString).zip xs) m (Str.ofString x) = some y) ∧ (kf (Str.ofString x) ≠ some .local → PySem.bindC kf ((ps.map Str.ofString).zip xs) cm (Str.ofString x) = some y)
  | [], vs, xs, m, cm, _, _, x, v, e => by simp [bindP] at e
  | p :: ps, [], xs, m, cm, _, _, x, v, e => by simp [bindP] at e
  | p :: ps, u :: vs, _, m, cm, hn, .cons (x := y) (xs := xs) hu hr, x, v, e => by
    obtain ⟨hp, hn⟩ := List.nodup_cons.mp hn
    simp only [bindP] at e
    simp only [List.map_cons, List.zip_cons_cons]
    by_cases hx : x = p
    · subst hx
      rw [Env.set_same] at e; cases e
      refine ⟨y, hu, fun hl => ?_, fun hl => ?_⟩
      · unfold PySem.bindL; rw [bindL_notin _ _ _ _ (notin_zip hp), if_pos hl]; simp
      · unfold PySem.bindC; rw [bindC_notin _ _ _ _ (notin_zip hp), if_neg hl]; simp
    · rw [Env.set_ne _ _ hx] at e
      obtain ⟨y', h1, h2, h3⟩ := bind_ok kf ps vs xs _ _ hn hr x v e
      exact ⟨y', h1, fun hl => by unfold PySem.bindL; exact h2 hl, fun hl => by unfold PySem.bindC; exact h3 hl⟩

theorem call_ok (T : TopOk W) {f : String} {ps : List String} {bs : List S} (F : FnOk W f ps bs) {vs : List V} {σ : Hp} {Q : VP} {X : XP} (hl : vs.length = ps.length)
    (hw : wpSs (glb W k) bs (bindP ps vs) σ (fun _ σ' => Q .none σ') Q (fun _ _ _ => False)) : callP W (k + 1) f vs σ Q X := by
  obtain ⟨fa, o, fd, body, n, hfa, ho, hd, hcr, hbody, hclo, hg, hb, hco, hgen, hkind, hbind, hcomp, hown, hnd⟩ := F
  refine ⟨fa, hfa, fun A s xs hA r rs => ?_⟩
  have hxl : xs.length = ps.length := by rw [← rs.length]; exact hl
  have base : ∀ b o, W.s₀.heap.get? b = some o → s.heap.get? b = some o := fun b o e => (r.base b o e).1
  have hA' : A.depth < recursionLimit := by have := hA.depth; omega
  have hk2 : ∀ x ∈ (ps.map Str.ofString).zip xs, fd.scope.names.lookup x.1 = some .local ∨ (fd.scope.names.lookup x.1 = some .cell ∧ ((PySem.cellsFrom (s.heap.objs.size + 1) fd.scope.names []).lookup x.1).isSome = true) := by
    intro x hx
    obtain ⟨p, hp, e⟩ := List.mem_map.mp (List.of_mem_zip (a := x.1) (b := x.2) hx).1
    have := hown p hp
    rw [← e]
    cases hq : fd.scope.names.lookup (Str.ofString p) with
    | none => simp [isOwn, hq] at this
    | some kd =>
      cases kd with
      | «local» => exact .inl rfl
      | cell => exact .inr ⟨rfl, cellsFrom_lookup _ _ _ _ (.inl (PySem.mem_of_lookup hq))⟩
      | _ => simp [isOwn, hq] at this
  refine PySem.codeAny_call_cells hA' (base _ _ ho) hd (T.lim.keeps base) (hcr.keeps base) hbody (hbind xs hxl) hclo hk2 (fun s₁ C => ?_) hco hgen hkind
  generalize henv : PySem.callEnvC fd s.heap.objs.size fa = env at C ⊢
  have hL : env.locals = s.heap.objs.size := by rw [← henv]; rfl
  have hcells : env.cells = PySem.cellsFrom (s.heap.objs.size + 1) fd.scope.names [] := by rw [← henv]; rfl
  have hsc : env.scope = fd.scope := by rw [← henv]; rfl
  have hRoom : Room (A.deeper env) k := ⟨hA.hand, by have := hA.units; show A.units + 3 + 10 * k + 200 < cLine; omega, by have := hA.depth; show A.depth + 1 + k < recursionLimit; omega⟩
  obtain ⟨⟨h₁, tk, rfl⟩, hns, hkeep, hfresh⟩ := C.toInCall
  have st : Step W [] σ s σ { s with heap := h₁, toks := tk } := r.grow hkeep tk []
  have fresh : ∀ a, s.heap.objs.size ≤ a → s.heap.get? a = none := fun a ha => by
    cases e : s.heap.get? a with
    | none => rfl
    | some o => exact absurd (PySem.Heap.lt_size e) (Nat.not_lt.mpr ha)
  have hown2 : ∀ b ∈ ownOf env, s.heap.get? b = none ∧ ∃ o, h₁.get? b = some o ∧ ¬ isTup o := by
    intro b hb'
    rcases List.mem_cons.mp hb' with e | hb'
    · subst e; exact ⟨fresh _ (by rw [hL]; exact Nat.le_refl _), ns_notTup hns⟩
    · obtain ⟨⟨X, c⟩, hm, e⟩ := List.mem_filterMap.mp hb'
      have hlt := C.above X b (PySem.mem_of_lookup e)
      rw [hL] at hlt
      exact ⟨fresh _ (Nat.le_of_lt hlt), cell_notTup (C.cell X b e)⟩
  have hbase : ∀ b, s.heap.get? b = none → W.s₀.heap.get? b = none := fun b hb' => by
    cases e : W.s₀.heap.get? b with
    | none => rfl
    | some o => rw [base b o e] at hb'; cases hb'
  have rs₁ : Reps W h₁ vs xs := rs.mono (st.tups r (Own.nil _))
  have EW : EnvW W env (bindP ps vs) σ { s with heap := h₁, toks := tk } := {
    kind := by rw [hsc]; exact hkind
    glob := by rw [← henv]; exact hg
    blt := by rw [← henv]; exact hb
    cells := fun X hX => by
      rw [hsc] at hX; rw [hcells]
      exact Option.isSome_iff_exists.mp (cellsFrom_lookup _ _ _ _ (.inl (PySem.mem_of_lookup hX)))
    var := fun x v hx h0 => by
      obtain ⟨y, hy, h1, h2⟩ := bind_ok env.kindOf ps vs xs (fun _ => none) (fun _ => none) hnd rs₁ x v hx
      refine ⟨fun hl' => ⟨_, y, hns, h1 hl', hy, r.fresh (fresh _ (by rw [hL]; exact Nat.le_refl _))⟩, fun hc => ?_⟩
      have hnl : env.kindOf (Str.ofString x) ≠ some .local := by
        unfold PySem.Env.kindOf
        rcases hc with hc | hc <;> rw [hc] <;> simp
      have hcell : env.scope.names.lookup (Str.ofString x) = some .cell := by
        rcases hc with hc | hc
        · exact hc
        · exfalso
          have hp : x ∈ ps := by
            have gen : ∀ (ps : List String) (vs : List V), bindP ps vs x = some v → x ∈ ps := by
              intro ps
              induction ps with
              | nil => intro vs h; simp [bindP] at h
              | cons p ps ih =>
                intro vs h
                cases vs with
                | nil => simp [bindP] at h
                | cons u vs =>
                  simp only [bindP] at h
                  by_cases hxp : x = p
                  · subst hxp; simp
                  · rw [Env.set_ne _ _ hxp] at h; exact List.mem_cons_of_mem _ (ih vs h)
            exact gen ps vs hx
          have := hown x hp
          rw [hsc] at hc
          simp [isOwn, hc] at this
      obtain ⟨c, hc'⟩ : ∃ c, env.cells.lookup (Str.ofString x) = some c := by
        rw [hsc] at hcell; rw [hcells]
        exact Option.isSome_iff_exists.mp (cellsFrom_lookup _ _ _ _ (.inl (PySem.mem_of_lookup hcell)))
      have := C.cell _ c hc'
      rw [h2 hnl] at this
      exact ⟨c, y, hc', this, hy, r.fresh (hown2 c (lookup_own hc')).1⟩
    ns := ⟨_, hns⟩
    cel := fun X c hX => ⟨_, C.cell X c hX⟩
    own := fun b hb' => ⟨r.fresh (hown2 b hb').1, hbase b (hown2 b hb').1, (hown2 b hb').2⟩
    apart := fun X Y c hX hY => PySem.name_of_addr C.apart (PySem.mem_of_lookup hX) (PySem.mem_of_lookup hY)
    neL := fun X c hX => by have := C.above X c (PySem.mem_of_lookup hX); exact Nat.ne_of_gt this }
  refine PySem.wpAny_mono (sSs_of (n := n) (fun m _ => sS_all T m) fd.scope.names body bs hcomp (A.deeper env) env (bindP ps vs) σ _ _ Q _ hRoom (by rw [hsc]) EW st.hr hw fun _ _ _ q => q) (fun fl s' h' => ?_) fun _ _ q => q.elim
  have hshr : ∀ σ', Step W (ownOf env) σ { s with heap := h₁, toks := tk } σ' s' → Step W [] σ s σ' s' := fun σ' g => st.shrink g fun b hb' => (hown2 b hb').1
  cases fl with
  | next =>
    obtain ⟨ρ', σ', hq, _, g⟩ := h'
    exact ⟨.none, σ', hq, .none, hshr σ' g⟩
  | ret v =>
    obtain ⟨u, σ', hq, hu, g⟩ := h'
    exact ⟨u, σ', hq, hu, hshr σ' g⟩
  | brk => exact h'.elim
  | cont => exact h'.elim
end
end RS

namespace RS
open PySem (Program World Shared Addr Value Obj Heap Str Around wpAny codeAny model Scope NameKind Expr Stmt FuncData cLine recursionLimit sizeLine mainGlobals builtinsNs PyData)

theorem zip_lookup : ∀ {ns : List Str} {xs : List Value} {n : Str}, ns.length ≤ xs.length → n ∈ ns → ((ns.zip xs).lookup n).isSome = true
  | [], _, _, _, h => by cases h
  | m :: ns, [], _, hl, _ => by simp at hl
  | m :: ns, x :: xs, n, hl, h => by
    simp only [List.zip_cons_cons, List.lookup_cons]
    by_cases hq : n = m
    · subst hq; simp
    · have hb : (n == m) = false := by simpa using hq
      rw [hb]
      rcases List.mem_cons.mp h with h | h
      · exact absurd h hq
      · exact zip_lookup (by simpa using hl) h

theorem fm_congr {α β : Type} {f g : α → Option β} : ∀ {l : List α}, (∀ x ∈ l, f x = g x) → l.filterMap f = l.filterMap g
  | [], _ => rfl
  | a :: l, h => by
    rw [List.filterMap_cons, List.filterMap_cons, h a (by simp), fm_congr fun x hx => h x (by simp [hx])]

theorem zip_filter : ∀ (ns : List Str) (xs : List Value), ns.Nodup → xs.length = ns.length → ns.filterMap (fun n => ((ns.zip xs).lookup n).map (n, ·)) = ns.zip xs
  | [], [], _, _ => rfl
  | [], _ :: _, _, h => by simp at h
  | m :: ns, [], _, h => by simp at h
  | m :: ns, x :: xs, hn, hl => by
    obtain ⟨hm, hn⟩ := List.nodup_cons.mp hn
    have ih := zip_filter ns xs hn (by simpa using hl)
    rw [List.zip_cons_cons, List.filterMap_cons]
    simp only [List.lookup_cons, beq_self_eq_true, Option.map_some]
    congr 1
    rw [← ih]
    refine fm_congr fun n hnm => ?_
    have hb : (n == m) = false := by
      simp only [beq_eq_false_iff_ne, ne_eq]; rintro rfl; exact hm hnm
    rw [hb, ih]

theorem bindArgs_plain {fd : FuncData} {ns : List Str} {xs : List Value} (h1 : fd.params.posonlyargs = []) (h2 : fd.params.args.map (·.arg) = ns) (h3 : fd.params.kwonlyargs = []) (h4 : fd.params.vararg = none) (h5 : fd.params.kwarg = none) (h6 : fd.defaults = .none)
    (hn : ns.Nodup) (hl : xs.length = ns.length) : PySem.bindArgs fd ⟨xs, []⟩ = pure (ns.zip xs) := by
  have hmiss : (ns.filter fun n => ((ns.zip xs).lookup n).isNone) = [] := by
    rw [List.filter_eq_nil_iff]
    intro n hnm
    have := zip_lookup (xs := xs) (by omega) hnm
    cases h : (ns.zip xs).lookup n with
    | none => rw [h] at this; cases this
    | some _ => simp
  have hseq : PySem.seqItems? (Value.none) = pure none := rfl
  unfold PySem.bindArgs
  simp [h1, h2, h3, h4, h5, h6, hseq, hl, hmiss, zip_filter ns xs hn hl]
end RS

namespace RS
open PySem (Program World Shared Addr Value Obj Heap Str Around wpAny codeAny model Scope NameKind Expr Stmt FuncData cLine recursionLimit sizeLine mainGlobals builtinsNs PyData)
open PyProof.Rows
open PySem (ExcName startupNames)

/-! ### the top -/
noncomputable def fnOf (mg : Str → Option Value) (f : String) : Option Addr := match mg (Str.ofString f) with | some (.ref a) => some a | _ => none
noncomputable def typNames : List String := ["int", "bool", "str", "tuple", "list"]
noncomputable def biNames : List String := ["len", "min", "max", "sum", "int", "isinstance", "list", "tuple", "dict", "all", "sorted"]
noncomputable def globOf (p : Program) (x : String) : Option V := if x ∈ typNames then some (.typ x) else match valOf p (Str.ofString x) with | some (.int i) => some (.int i) | _ => none
noncomputable def wdOf (prog p : Program) (w : World) (s₁ : Shared) (sa : Addr) (ns : List Int) (names : List String) (mg mb : Str → Option Value) : Wd := ⟨prog, w, s₁, sa, ns, fun _ => none, globOf p, names, fnOf mg, mg, mb⟩

noncomputable def freeB (p : Program) (loose : List Str) (x : Str) : Bool := !(startupNames.contains x) && !(loose.contains x) && !((recsOf p).map (·.name)).contains x && !((litsOf p).map (·.1)).contains x && !((clssOf p loose).map (·.name)).contains x
noncomputable def topChk (p : Program) (loose : List Str) (names : List String) : Bool :=
  importsNone p && (("range" :: (biNames ++ typNames)).all fun x => freeB p loose (Str.ofString x)) && names.all fun f => (recsOf p).any fun d => d.name == Str.ofString f

section
variable {prog p : Program} {w : World} {s₁ : Shared} {sa : Addr} {ns : List Int} {names : List String} {mg mb : Str → Option Value} {loose : List Str} {mean : ExcName → Option Value}

theorem freeB_is (T : Top p loose mean mg mb s₁.heap) {x : Str} (h : freeB p loose x = true) : mg x = none := by
  simp only [freeB, Bool.and_eq_true, Bool.not_eq_true', List.contains_eq_mem, decide_eq_false_iff_not] at h
  exact T.free x h.1.1.1.1 h.1.1.1.2 h.1.1.2 h.1.2 h.2

theorem biOf_boot {x : String} {b : Bi} (h : biOf x = some b) : x ∈ biNames ∧ PySem.bootBuiltins (Str.ofString x) = some (biV b) ∧ Str.ofString x ≠ "__name__" := by
  unfold biOf at h
  split at h <;> first | (cases h; exact ⟨by decide, by kernel_rfl, by decide⟩) | cases h

theorem intsAre_reps {W : Wd} {h : Heap} {l : List Value} {ns : List Int} (hi : IntsAre l ns) : Reps W h (ns.map V.int) l := by
  induction hi with
  | nil => exact .nil
  | cons n t hr ih => exact .cons (.int _ _) ih

theorem topOk_of (T : Top p loose mean mg mb s₁.heap) (hc : topChk p loose names = true) (hs : ∃ items n, items.size ≤ 1000001 ∧ s₁.heap.get? sa = some { cls := .type "list", data := .seq items n } ∧ PyProof.Rows.IntsAre items.toList ns) :
    TopOk (wdOf prog p w s₁ sa ns names mg mb) := by
  simp only [topChk, Bool.and_eq_true, List.all_eq_true] at hc
  obtain ⟨⟨himp, hfree⟩, hnames⟩ := hc
  have hfree' : ∀ x ∈ ("range" :: (biNames ++ typNames)), mg (Str.ofString x) = none := fun x hx => freeB_is T (hfree x hx)
  refine { sys := ?_, script := ?_, lim := T.nolimit, hg := T.g, hb := T.b, fnF := ?_, globV := ?_, biB := ?_, rng := ⟨hfree' "range" (by simp), (T.builtins _ (by decide)).trans (by kernel_rfl)⟩ }
  · obtain ⟨mm, ⟨o, es, ep, ho, _⟩, _⟩ := (T.seer himp).mods
    show s₁.heap.get? PySem.sysModules ≠ none
    rw [ho]; simp
  · obtain ⟨items, n, z, e, hi⟩ := hs
    refine ⟨items, n, z, e, fun h => ?_⟩
    show Reps _ h (ns.map V.int) _
    exact intsAre_reps hi
  · intro f hf
    have := hnames f hf
    rw [List.any_eq_true] at this
    obtain ⟨d, hd, he⟩ := this
    obtain ⟨a, o, pm, code, doc, hmg, ho, hdt, hcr⟩ := T.fn d hd
    rw [eq_of_beq he] at hmg
    exact ⟨a, by show fnOf mg f = some a; unfold fnOf; rw [hmg], hmg, o, _, ho, hdt⟩
  · intro x v hx
    have hx : globOf p x = some v := hx
    unfold globOf at hx
    split at hx
    · rename_i ht
      cases hx
      refine ⟨.type x, .inr ⟨hfree' x (by simp [ht]), ?_⟩, fun h => .typ x⟩
      show mb _ = _
      simp only [typNames, List.mem_cons, List.not_mem_nil, or_false] at ht
      rcases ht with rfl | rfl | rfl | rfl | rfl <;> exact (T.builtins _ (by decide)).trans (by kernel_rfl)
    · split at hx
      · rename_i i hv
        cases hx
        obtain ⟨y, hy, hr⟩ := T.const _ _ hv
        have := hr s₁.heap
        cases this
        exact ⟨_, .inl hy, fun h => .int _ _⟩
      · cases hx
  · intro x b hb
    obtain ⟨h1, h2, h3⟩ := biOf_boot hb
    exact ⟨hfree' x (by simp [h1]), (T.builtins _ h3).trans h2⟩

theorem typ_of : ∀ t ∈ typNames, (wdOf prog p w s₁ sa ns names mg mb).glob t = some (.typ t) := fun t ht => by
  show globOf p t = _; unfold globOf; rw [if_pos ht]

/-- the text's reading of a function -/
noncomputable def recOk (p : Program) (f : String) (ps : List String) : Option (List S) :=
  match (recsOf p).find? fun d => d.name == Str.ofString f with
  | none => none
  | some d => if d.params.posonlyargs.isEmpty && d.params.kwonlyargs.isEmpty && d.params.vararg.isNone && d.params.kwarg.isNone && (d.params.args.map (·.arg) == ps.map Str.ofString) && d.scope.kind == .function && !d.scope.isCoroutine && !d.scope.isGenerator &&
      (ps.all fun x => isOwn d.scope.names (Str.ofString x)) && decide ps.Nodup then compSs 100 d.scope.names d.body else none

theorem fnOk_of (T : Top p loose mean mg mb s₁.heap) {f : String} {ps : List String} {bs : List S} (h : recOk p f ps = some bs) : FnOk (wdOf prog p w s₁ sa ns names mg mb) f ps bs := by
  unfold recOk at h
  split at h
  · cases h
  · rename_i d hd
    split at h
    · rename_i hc
      simp only [Bool.and_eq_true, Bool.not_eq_true', List.isEmpty_iff, Option.isNone_iff_eq_none, beq_iff_eq, List.all_eq_true, decide_eq_true_eq] at hc
      obtain ⟨⟨⟨⟨⟨⟨⟨⟨⟨h1, h2⟩, h3⟩, h4⟩, h5⟩, h6⟩, h7⟩, h8⟩, h9⟩, h10⟩ := hc
      have hmem := List.mem_of_find?_eq_some hd
      have hname : d.name = Str.ofString f := by simpa using List.find?_some hd
      obtain ⟨a, o, pm, code, doc, hmg, ho, hdt, hcr⟩ := T.fn d hmem
      rw [hname] at hmg
      refine ⟨a, o, _, d.body, 100, by show fnOf mg f = some a; unfold fnOf; rw [hmg], ho, hdt, hcr, rfl, rfl, rfl, rfl, h7, h8, h6, fun xs hl => ?_, h, h9, h10⟩
      refine bindArgs_plain h1 h5 h2 h3 h4 rfl ?_ (by simpa using hl)
      rw [List.Nodup, List.pairwise_map]
      exact h10.imp fun hne he => hne (Str.ofString_inj he)
    · cases h

theorem roomCaller : Room PySem.callerA 40 := ⟨rfl, by decide +kernel, by decide +kernel⟩
end
end RS

namespace RS
open PySem (Program World Shared Addr Value Obj Heap Str Around wpAny codeAny model Scope NameKind Expr Stmt FuncData cLine recursionLimit sizeLine mainGlobals builtinsNs PyData)
open PyProof.Rows
open PySem (ExcName startupNames)

theorem intsAre_length {l : List Value} {ns : List Int} (h : IntsAre l ns) : l.length = ns.length := by
  induction h with
  | nil => rfl
  | cons _ _ _ ih => simp [ih]

theorem script_of {P : PySem.Params} {h : Heap} {sa : Addr} {xs : List PySem.W.WData} {vals : List Value} {ns : List Int} (w1 : PySem.W.Well P h (.ref sa) (.list xs)) (hL : h.IsList sa vals.toArray) (hI : IntsAre vals ns) (hn : ns.length ≤ 1000) :
    ∃ items n, items.size ≤ 1000001 ∧ h.get? sa = some { cls := .type "list", data := .seq items n } ∧ IntsAre items.toList ns := by
  cases w1 with
  | list e _ =>
    obtain ⟨o, ho, _, n, hd⟩ := hL
    rw [e] at ho; cases ho
    injection hd with hd _
    exact ⟨_, _, by have := intsAre_length hI; rw [hd]; simp; omega, e, by rw [hd]; exact hI⟩

section
variable {prog p : Program} {w : World} {s₁ : Shared} {sa fa : Addr} {ns : List Int} {names : List String} {mg mb : Str → Option Value}

theorem law_good {c : PySem.W.ClaimW} {cl : Str → Option Addr} {mean : ExcName → Option Value} {args : List PySem.W.WData}
    (hcall : callP (wdOf prog p w s₁ sa ns names mg mb) 40 "law" [.script] (fun _ => none) (fun v _ => v = .bool true) (fun _ _ => False))
    (hmg : mg (Str.ofString "law") = some (.ref fa)) (hgens : s₁.gens = #[]) (hpost : c.post args (.bool true) args = true) (hraise : ∀ cls, c.raises args cls = false) :
    codeAny (model prog w) PySem.callerA (.call (.ref fa) ⟨[.ref sa], []⟩) (PySem.W.GoodW c cl mean args s₁) s₁ := by
  obtain ⟨fa', hfa, hc⟩ := hcall
  have hfa' : fnOf mg "law" = some fa' := hfa
  unfold fnOf at hfa'
  rw [hmg] at hfa'
  cases hfa'
  have r : HR (wdOf prog p w s₁ sa ns names mg mb) (fun _ => none) s₁ := ⟨⟨s₁.heap, s₁.toks, rfl⟩, fun b o e => ⟨e, rfl⟩, fun a c h => by cases h⟩
  refine PySem.codeAny_mono (hc PySem.callerA s₁ [.ref sa] roomCaller r (.one .script)) fun rr s' h => ?_
  cases rr with
  | error e => exact h.elim
  | ok f =>
    cases f with
    | ret v =>
      obtain ⟨u, σ', rfl, hu, st⟩ := h
      cases hu
      obtain ⟨h', tk, rfl⟩ := st.hr.same
      refine ⟨.inl ⟨_, .bool true, [], rfl, hraise, .bool true, hpost, fun _ => ⟨List.nodup_nil, fun a ha => by cases ha⟩⟩, fun b o e => (st.hr.base b o e).1, rfl, hgens⟩
    | _ => exact h.elim
end

/-! ## the part of the text that the head looks at: all but the names of its files -/
end RS

namespace RS
open PySem (PyData)

/-! ### rules of a sheet, as data -/
structure Ref where
  r : Int
  c : Int
  a : Bool
  b : Bool
noncomputable def Ref.v (x : Ref) : V := .tup [.int x.r, .int x.c, .bool x.a, .bool x.b]
inductive Op3 where
  | add | sub | mul
noncomputable def Op3.nm : Op3 → String
  | .add => "add" | .sub => "sub" | .mul => "mul"
inductive Rule where
  | num (i : Int)
  | cell (x : Ref)
  | sum (x y : Ref)
  | most (x y : Ref)
  | op (o : Op3) (a b : Rule)
  | pick (a b c : Rule)
  | look (a : Rule) (x y : Ref) (b : Rule)
noncomputable def Rule.v : Rule → V
  | .num i => .tup [.str "num", .int i]
  | .cell x => .tup [.str "cell", x.v]
  | .sum x y => .tup [.str "sum", x.v, y.v]
  | .most x y => .tup [.str "most", x.v, y.v]
  | .op o a b => .tup [.str o.nm, a.v, b.v]
  | .pick a b c => .tup [.str "pick", a.v, b.v, c.v]
  | .look a x y b => .tup [.str "look", a.v, x.v, y.v, b.v]
noncomputable def Rule.deep : Rule → Nat
  | .op _ a b => max a.deep b.deep + 1
  | .pick a b c => max a.deep (max b.deep c.deep) + 1
  | .look a _ _ b => max a.deep b.deep + 1
  | _ => 1
noncomputable def Rule.parts : Rule → List Rule
  | .op _ a b => [a, b]
  | .pick a b c => [a, b, c]
  | .look a _ _ b => [a, b]
  | _ => []

theorem snap_ref (σ : Hp) (x : Ref) (n : Nat) : snap σ (n + 1) x.v = some (.tuple [.int x.r, .int x.c, .bool x.a, .bool x.b]) := by
  cases n <;> rfl
theorem snap_rule (σ : Hp) : ∀ (r : Rule) (n : Nat), r.deep + 1 ≤ n → ∃ d, snap σ n r.v = some d
  | .num i, n, h => by
    obtain ⟨m, rfl⟩ : ∃ m, n = m + 2 := ⟨n - 2, by simp [Rule.deep] at h; omega⟩
    exact ⟨_, rfl⟩
  | .cell x, n, h => by
    obtain ⟨m, rfl⟩ : ∃ m, n = m + 2 := ⟨n - 2, by simp [Rule.deep] at h; omega⟩
    simp [Rule.v, snap, optAll, snap_ref]
  | .sum x y, n, h => by
    obtain ⟨m, rfl⟩ : ∃ m, n = m + 2 := ⟨n - 2, by simp [Rule.deep] at h; omega⟩
    simp [Rule.v, snap, optAll, snap_ref]
  | .most x y, n, h => by
    obtain ⟨m, rfl⟩ : ∃ m, n = m + 2 := ⟨n - 2, by simp [Rule.deep] at h; omega⟩
    simp [Rule.v, snap, optAll, snap_ref]
  | .op o a b, n, h => by
    obtain ⟨m, rfl⟩ : ∃ m, n = m + 1 := ⟨n - 1, by simp [Rule.deep] at h; omega⟩
    simp only [Rule.deep] at h
    obtain ⟨da, ha⟩ := snap_rule σ a m (by omega)
    obtain ⟨db, hb⟩ := snap_rule σ b m (by omega)
    simp [Rule.v, snap, optAll, ha, hb]
  | .pick a b c, n, h => by
    obtain ⟨m, rfl⟩ : ∃ m, n = m + 1 := ⟨n - 1, by simp [Rule.deep] at h; omega⟩
    simp only [Rule.deep] at h
    obtain ⟨da, ha⟩ := snap_rule σ a m (by omega)
    obtain ⟨db, hb⟩ := snap_rule σ b m (by omega)
    obtain ⟨dc, hc⟩ := snap_rule σ c m (by omega)
    simp [Rule.v, snap, optAll, ha, hb, hc]
  | .look a x y b, n, h => by
    obtain ⟨m, rfl⟩ : ∃ m, n = m + 2 := ⟨n - 2, by simp [Rule.deep] at h; omega⟩
    simp only [Rule.deep] at h
    obtain ⟨da, ha⟩ := snap_rule σ a (m + 1) (by omega)
    obtain ⟨db, hb⟩ := snap_rule σ b (m + 1) (by omega)
    simp [Rule.v, snap, optAll, ha, hb, snap_ref]
theorem snap_rules (σ : Hp) (n : Nat) : ∀ (rs : List Rule), (∀ r ∈ rs, r.deep + 1 ≤ n) → ∃ ds, optAll (snap σ n) (rs.map Rule.v) = some ds
  | [], _ => ⟨[], rfl⟩
  | r :: rs, h => by
    obtain ⟨d, hd⟩ := snap_rule σ r n (h r (by simp))
    obtain ⟨ds, hds⟩ := snap_rules σ n rs fun r hr => h r (by simp [hr])
    exact ⟨d :: ds, by simp [optAll, hd, hds]⟩

theorem s_neL0 {σ : Hp} {B : Bool → Prop} {a b : Nat} {vs : List V} (ha : σ a = some (.lst vs)) (hb : σ b = some (.lst [])) (hs : ∃ ds, optAll (snap σ 49) vs = some ds) (q : B (!vs.isEmpty)) : cmpP .ne (.ref a) (.ref b) σ B := by
  obtain ⟨ds, hds⟩ := hs
  refine ⟨.list ds, .list [], ⟨by simp [snap, ha, hds], by simp [snap, hb, optAll]⟩, ?_⟩
  have hl := optAll_length hds
  cases vs with
  | nil => cases ds with | nil => simpa [PyData.eqv, PyData.eqvAll] using q | cons _ _ => simp at hl
  | cons v vs => cases ds with | nil => simp at hl | cons _ _ => simpa [PyData.eqv, PyData.eqvAll] using q

/-- the same, over a list of data -/
theorem compL_lt {α : Type} {one : V → Hp → (Option V → Hp → Prop) → Prop} {chk : Hp → Prop} (p q : α → V) {xs : List α} {σ : Hp} {K : List V → Hp → Prop}
    (hc : ∀ σ', σ.le σ' → chk σ') (hl : lenOk xs.length) (h1 : ∀ x ∈ xs, ∀ σ', σ.le σ' → ∀ K', (∀ σ'', σ'.le σ'' → K' (some (q x)) σ'') → one (p x) σ' K') (hK : ∀ σ', σ.le σ' → K (xs.map q) σ') : compL one chk (xs.map p) [] σ K := by
  suffices H : ∀ (xs : List α) (acc : List V) (σ₁ : Hp), σ.le σ₁ → lenOk (acc.length + xs.length) → (∀ x ∈ xs, ∀ σ', σ.le σ' → ∀ K', (∀ σ'', σ'.le σ'' → K' (some (q x)) σ'') → one (p x) σ' K') → (∀ σ', σ.le σ' → K (acc ++ xs.map q) σ') → compL one chk (xs.map p) acc σ₁ K by
    exact H xs [] σ (Hp.le_refl σ) (by simpa using hl) h1 (by simpa using hK)
  intro xs
  induction xs with
  | nil => intro acc σ₁ hle _ _ hK; exact ⟨hc _ hle, by simpa using hK _ hle⟩
  | cons v vs ih =>
    intro acc σ₁ hle hl h1 hK
    refine ⟨hc _ hle, by unfold lenOk at *; simp at hl; omega, h1 v (by simp) σ₁ hle _ fun σ₂ h₂ => ?_⟩
    exact ih _ σ₂ (Hp.le_trans hle h₂) (by unfold lenOk at *; simp at hl ⊢; omega) (fun w hw => h1 w (by simp [hw])) (by simpa using hK)
theorem slice_tail (v : V) (vs : List V) : pySlice (v :: vs) (some 1) none = vs := by
  have : List.take vs.length vs = vs := List.take_length
  simp [pySlice, clipLo, clipHi, clip, this]

theorem callP_mono {W : Wd} {k k' : Nat} {f : String} {vs : List V} {σ : Hp} {Q : VP} {X X' : XP} (h : k ≤ k') (c : callP W k f vs σ Q X) : callP W k' f vs σ Q X' := by
  obtain ⟨fa, hfa, hc⟩ := c
  exact ⟨fa, hfa, fun A s xs hA r rs => hc A s xs ⟨hA.hand, by have := hA.units; omega, by have := hA.depth; omega⟩ r rs⟩
end RS

namespace RS
open PySem (PyData)

noncomputable def noX : XP := fun _ _ => False
theorem gcall {W : Wd} {n m : Nat} {f : String} {vs : List V} {σ : Hp} {Q : VP} {X : XP} (h : m ≤ n) (c : callP W m f vs σ Q noX) : (glb W n).call f vs σ Q X := callP_mono (X := noX) (X' := X) h c
theorem s_tupG {g : Glb} {σ : Hp} {Q : VP} {a : Nat} {vs : List V} (ha : σ a = some (.lst vs)) (q : Q (.tup vs) σ) : biP g .tuple [.ref a] σ Q := s_tuple ha q

/-! ### a stack's end -/
theorem get_end {α : Type} (pre suf : List α) {k : Int} {v : α} (hk : k < 0) (hl : 0 ≤ k + suf.length) (h : suf[(k + suf.length).toNat]? = some v) : pyGet (pre ++ suf) k = some v := by
  unfold pyGet
  rw [if_neg (by omega), if_pos (by simp; omega)]
  rw [List.getElem?_append_right (by simp; omega)]
  rw [show (k + ((pre ++ suf).length : Int)).toNat - pre.length = (k + (suf.length : Int)).toNat from by simp; omega]
  exact h
theorem slice_end {α : Type} (pre suf : List α) {k : Int} (hk : k < 0) (hl : k = - (suf.length : Int)) : pySlice (pre ++ suf) none (some k) = pre := by
  simp only [pySlice, clipLo, clipHi, clip]
  rw [if_neg (by omega)]
  rw [show (k + ((pre ++ suf).length : Int)).toNat = pre.length from by simp; omega]
  simp
theorem last2 {α : Type} {l : List α} (h : 1 < l.length) : ∃ pre x y, l = pre ++ [x, y] := by
  refine ⟨l.take (l.length - 2), l[l.length - 2], l[l.length - 1], ?_⟩
  apply List.ext_getElem?
  intro i
  by_cases h1 : i < l.length - 2
  · rw [List.getElem?_append_left (by simp; omega)]; simp [h1]
  · rw [List.getElem?_append_right (by simp; omega)]
    simp only [List.length_take, Nat.min_eq_left (show l.length - 2 ≤ l.length by omega)]
    by_cases h2 : i < l.length
    · rcases (by omega : i = l.length - 2 ∨ i = l.length - 1) with rfl | rfl
      · simp [List.getElem?_eq_getElem h2]
      · rw [List.getElem?_eq_getElem h2, show l.length - 1 - (l.length - 2) = 1 from by omega]; rfl
    · rw [List.getElem?_eq_none (by omega), List.getElem?_eq_none (by simp; omega)]
theorem last1 {α : Type} {l : List α} (h : l ≠ []) : ∃ pre x, l = pre ++ [x] := ⟨l.dropLast, l.getLast h, (List.dropLast_concat_getLast h).symm⟩
theorem last3 {α : Type} {l : List α} (h : 2 < l.length) : ∃ pre x y z, l = pre ++ [x, y, z] := by
  obtain ⟨p, y, z, rfl⟩ := last2 (show 1 < l.length by omega)
  have : p ≠ [] := by rintro rfl; simp at h
  obtain ⟨q, x, rfl⟩ := last1 this
  exact ⟨q, x, y, z, by simp⟩
end RS

namespace RS
open PySem (PyData)

noncomputable def p_rules_in : List String := ["rule"]
noncomputable def b_rules_in : List S := [
  .ite (.bop false [.cmp (.idx (.var "rule") (.num 0)) .eq (.str "add"), .cmp (.idx (.var "rule") (.num 0)) .eq (.str "sub"), .cmp (.idx (.var "rule") (.num 0)) .eq (.str "mul"), .cmp (.idx (.var "rule") (.num 0)) .eq (.str "pick")]) [
    .ret (.bi .list [.slice (.var "rule") (some (.num 1)) Option.none])] [],
  .ite (.cmp (.idx (.var "rule") (.num 0)) .eq (.str "look")) [
    .ret (.lst [.idx (.var "rule") (.num 1), .idx (.var "rule") (.num 4)])] [],
  .ret (.lst [])]

noncomputable def p_moved : List String := ["reference", "down", "right"]
noncomputable def b_moved : List S := [
  .assign (.var "row") (.idx (.var "reference") (.num 0)),
  .assign (.var "column") (.idx (.var "reference") (.num 1)),
  .ite (.not (.idx (.var "reference") (.num 2))) [
    .assign (.var "row") (.bin .add (.var "row") (.var "down"))] [],
  .ite (.not (.idx (.var "reference") (.num 3))) [
    .assign (.var "column") (.bin .add (.var "column") (.var "right"))] [],
  .ret (.tup [.var "row", .var "column", .idx (.var "reference") (.num 2), .idx (.var "reference") (.num 3)])]

noncomputable def p_shifted : List String := ["rule", "down", "right"]
noncomputable def b_shifted : List S := [
  .ite (.cmp (.idx (.var "rule") (.num 0)) .eq (.str "num")) [
    .ret (.var "rule")] [],
  .ite (.cmp (.idx (.var "rule") (.num 0)) .eq (.str "look")) [
    .assign (.var "first") (.call "shifted" [.idx (.var "rule") (.num 1), .var "down", .var "right"]),
    .ret (.tup [.str "look", .var "first", .call "moved" [.idx (.var "rule") (.num 2), .var "down", .var "right"], .call "moved" [.idx (.var "rule") (.num 3), .var "down", .var "right"], .call "shifted" [.idx (.var "rule") (.num 4), .var "down", .var "right"]])] [],
  .ite (.cmp (.call "rules_in" [.var "rule"]) .ne (.lst [])) [
    .ret (.bin .add (.tup [.idx (.var "rule") (.num 0)]) (.bi .tuple [.comp (.call "shifted" [.var "one", .var "down", .var "right"]) "one" (.of (.slice (.var "rule") (some (.num 1)) Option.none)) []]))] [],
  .ret (.bin .add (.tup [.idx (.var "rule") (.num 0)]) (.bi .tuple [.comp (.call "moved" [.var "one", .var "down", .var "right"]) "one" (.of (.slice (.var "rule") (some (.num 1)) Option.none)) []]))]

noncomputable def p_law_cell_at : List String := ["_law_script", "_law_k"]
noncomputable def b_law_cell_at : List S := [
  .ite (.cmp (.var "_law_k") .lt (.bi .len [.var "_law_script"])) [
    .ret (.idx (.var "_law_script") (.var "_law_k"))] [],
  .ret (.num 0)]

noncomputable def p_law_ref_by : List String := ["_law_cell"]
noncomputable def b_law_ref_by : List S := [
  .ret (.tup [.bin .mod (.var "_law_cell") (.num 12), .bin .mod (.bin .fdiv (.var "_law_cell") (.num 12)) (.num 12), .cmp (.bin .mod (.bin .fdiv (.var "_law_cell") (.num 144)) (.num 2)) .eq (.num 1), .cmp (.bin .mod (.bin .fdiv (.var "_law_cell") (.num 288)) (.num 2)) .eq (.num 1)])]

noncomputable def p_law_leaf_by : List String := ["_law_cell"]
noncomputable def b_law_leaf_by : List S := [
  .assign (.var "_law_more") (.bin .fdiv (.var "_law_cell") (.num 6)),
  .ite (.cmp (.bin .mod (.var "_law_cell") (.num 6)) .eq (.num 0)) [
    .ret (.tup [.str "num", .bin .sub (.bin .mod (.var "_law_more") (.bin .pow (.num 10) (.num 30))) (.bin .pow (.num 10) (.num 9))])] [],
  .ite (.cmp (.bin .mod (.var "_law_cell") (.num 6)) .eq (.num 1)) [
    .ret (.tup [.str "sum", .call "_law_ref_by" [.var "_law_more"], .call "_law_ref_by" [.bin .mod (.bin .mul (.var "_law_more") (.num 48271)) (.num 1000003)]])] [],
  .ite (.cmp (.bin .mod (.var "_law_cell") (.num 6)) .eq (.num 2)) [
    .ret (.tup [.str "most", .call "_law_ref_by" [.var "_law_more"], .call "_law_ref_by" [.bin .mod (.bin .mul (.var "_law_more") (.num 69621)) (.num 1000033)]])] [],
  .ret (.tup [.str "cell", .call "_law_ref_by" [.var "_law_more"]])]

noncomputable def p_law_pushed : List String := ["_law_stack", "_law_cell"]
noncomputable def b_law_pushed : List S := [
  .assign (.var "_law_more") (.bin .fdiv (.var "_law_cell") (.num 12)),
  .ite (.bop true [.cmp (.bin .mod (.var "_law_cell") (.num 12)) .lt (.num 3), .cmp (.bi .len [.var "_law_stack"]) .gt (.num 1)]) [
    .ret (.bin .add (.slice (.var "_law_stack") Option.none (some (.neg (.num 2)))) (.lst [.tup [.idx (.lst [.str "add", .str "sub", .str "mul"]) (.bin .mod (.var "_law_cell") (.num 12)), .idx (.var "_law_stack") (.neg (.num 2)), .idx (.var "_law_stack") (.neg (.num 1))]]))] [],
  .ite (.bop true [.cmp (.bin .mod (.var "_law_cell") (.num 12)) .eq (.num 3), .cmp (.bi .len [.var "_law_stack"]) .gt (.num 2)]) [
    .ret (.bin .add (.slice (.var "_law_stack") Option.none (some (.neg (.num 3)))) (.lst [.tup [.str "pick", .idx (.var "_law_stack") (.neg (.num 3)), .idx (.var "_law_stack") (.neg (.num 2)), .idx (.var "_law_stack") (.neg (.num 1))]]))] [],
  .ite (.bop true [.cmp (.bin .mod (.var "_law_cell") (.num 12)) .eq (.num 4), .cmp (.bi .len [.var "_law_stack"]) .gt (.num 1)]) [
    .assign (.var "_law_other") (.call "_law_ref_by" [.bin .mod (.bin .mul (.var "_law_more") (.num 48271)) (.num 1000003)]),
    .ret (.bin .add (.slice (.var "_law_stack") Option.none (some (.neg (.num 2)))) (.lst [.tup [.str "look", .idx (.var "_law_stack") (.neg (.num 2)), .call "_law_ref_by" [.var "_law_more"], .var "_law_other", .idx (.var "_law_stack") (.neg (.num 1))]]))] [],
  .ret (.bin .add (.var "_law_stack") (.lst [.call "_law_leaf_by" [.var "_law_more"]]))]

noncomputable def p_law_is_ref : List String := ["_law_part"]
noncomputable def b_law_is_ref : List S := [
  .ret (.bop true [.bi .isinstance [.var "_law_part", .glob "tuple"], .cmp (.bi .len [.var "_law_part"]) .eq (.num 4), .bi .isinstance [.idx (.var "_law_part") (.num 2), .glob "bool"]])]

noncomputable def p_law_moved : List String := ["_law_part", "_law_down", "_law_right"]
noncomputable def b_law_moved : List S := [
  .ite (.call "_law_is_ref" [.var "_law_part"]) [
    .ret (.tup [.bin .add (.idx (.var "_law_part") (.num 0)) (.bin .mul (.var "_law_down") (.bi .int [.not (.idx (.var "_law_part") (.num 2))])), .bin .add (.idx (.var "_law_part") (.num 1)) (.bin .mul (.var "_law_right") (.bi .int [.not (.idx (.var "_law_part") (.num 3))])), .idx (.var "_law_part") (.num 2), .idx (.var "_law_part") (.num 3)])] [],
  .ite (.bi .isinstance [.var "_law_part", .glob "tuple"]) [
    .ret (.bi .tuple [.comp (.call "_law_moved" [.var "_law_one", .var "_law_down", .var "_law_right"]) "_law_one" (.of (.var "_law_part")) []])] [],
  .ret (.var "_law_part")]

noncomputable def p_law_same : List String := ["_law_found", "_law_due"]
noncomputable def b_law_same : List S := [
  .ite (.bi .isinstance [.var "_law_due", .glob "tuple"]) [
    .ite (.bop false [.not (.bi .isinstance [.var "_law_found", .glob "tuple"]), .cmp (.bi .len [.var "_law_found"]) .ne (.bi .len [.var "_law_due"])]) [
      .ret (.bool false)] [],
    .for_ "_law_k" (.range1 (.bi .len [.var "_law_due"])) [
      .ite (.not (.call "_law_same" [.idx (.var "_law_found") (.var "_law_k"), .idx (.var "_law_due") (.var "_law_k")])) [
        .ret (.bool false)] []],
    .ret (.bool true)] [],
  .ite (.bop false [.bi .isinstance [.var "_law_due", .glob "bool"], .bi .isinstance [.var "_law_found", .glob "bool"]]) [
    .ret (.bop true [.bi .isinstance [.var "_law_due", .glob "bool"], .bi .isinstance [.var "_law_found", .glob "bool"], .cmp (.var "_law_found") .eq (.var "_law_due")])] [],
  .ite (.bi .isinstance [.var "_law_due", .glob "int"]) [
    .ret (.bop true [.bi .isinstance [.var "_law_found", .glob "int"], .cmp (.var "_law_found") .eq (.var "_law_due")])] [],
  .ret (.bop true [.bi .isinstance [.var "_law_found", .glob "str"], .cmp (.var "_law_found") .eq (.var "_law_due")])]

noncomputable def p_law : List String := ["_law_script"]
noncomputable def b_law : List S := [
  .assign (.var "_law_stack") (.lst [.tup [.str "num", .num 7]]),
  .for_ "_law_cell" (.of (.slice (.var "_law_script") (some (.num 2)) (some (.num 26)))) [
    .assign (.var "_law_stack") (.call "_law_pushed" [.var "_law_stack", .var "_law_cell"])],
  .assign (.var "_law_rule") (.idx (.var "_law_stack") (.neg (.num 1))),
  .assign (.var "_law_steps") (.lst []),
  .for_ "_law_k" (.range1 (.num 2)) [
    .assign (.var "_law_step") (.bin .sub (.bin .mod (.call "_law_cell_at" [.var "_law_script", .var "_law_k"]) (.num 25)) (.num 12)),
    .ite (.cmp (.bin .mod (.bin .fdiv (.call "_law_cell_at" [.var "_law_script", .num 0]) (.num 25)) (.num 3)) .eq (.num 1)) [
      .assign (.var "_law_step") (.bin .add (.bin .mul (.var "_law_step") (.bin .pow (.num 10) (.num 20))) (.bin .mod (.bin .fdiv (.call "_law_cell_at" [.var "_law_script", .var "_law_k"]) (.num 75)) (.num 7)))] [],
    .expr (.meth (.var "_law_steps") .append [.var "_law_step"])],
  .assign (.var "_law_found") (.call "shifted" [.var "_law_rule", .idx (.var "_law_steps") (.num 0), .idx (.var "_law_steps") (.num 1)]),
  .ite (.not (.call "_law_same" [.var "_law_found", .call "_law_moved" [.var "_law_rule", .idx (.var "_law_steps") (.num 0), .idx (.var "_law_steps") (.num 1)]])) [
    .ret (.bool false)] [],
  .ret (.call "_law_same" [.call "shifted" [.var "_law_found", .bin .sub (.num 0) (.idx (.var "_law_steps") (.num 0)), .bin .sub (.num 0) (.idx (.var "_law_steps") (.num 1))], .var "_law_rule"])]

local macro_rules | `(tactic| ktr_unf) => `(tactic| (with_unfolding_all first | rfl | assumption))
local macro_rules | `(tactic| tb_rel) => `(tactic| (first
  | with_reducible refine s_get (by ktr_unf) ?_
  | (with_reducible refine st_cons ?_; dsimp only [wpS, wpT, wpE, wpEs, wpA, wpSrc, wpIfs, wpBop, wpO])
  | with_reducible refine st_nil ?_
  | with_reducible refine s_idxT (by ktr_unf) ?_
  | with_reducible refine s_add ?_ | with_reducible refine s_sub ?_ | with_reducible refine s_eqS ?_ | with_reducible refine s_eqI ?_ | with_reducible refine s_neI ?_ | with_reducible refine s_neS ?_
  | with_reducible refine s_lt ?_ | with_reducible refine s_le ?_ | with_reducible refine s_gt ?_ | with_reducible refine s_ge ?_
  | with_reducible refine s_truth (by ktr_unf) ?_
  | with_reducible refine s_ifT (by with_unfolding_all rfl) ?_ | with_reducible refine s_ifF Bool.false_ne_true ?_
  | with_reducible refine s_mod (by omega) ?_ | with_reducible refine s_fdiv (by unfold small; omega) ?_
  | with_reducible refine s_mul (by unfold small; omega) ?_
  | with_reducible refine s_pow (by unfold small; omega) ?_ | with_reducible refine s_neg ?_
  | with_reducible refine s_recv (s_recvL (by assumption) (by simp)) ?_
  | with_reducible refine s_min2 ?_ | with_reducible refine s_max2 ?_ | with_reducible refine s_lenT ?_ | with_reducible refine s_lenS ?_ | with_reducible refine s_int ?_
  | with_reducible refine s_lenL (by assumption) ?_
  | with_reducible refine s_idxL (by assumption) (by ktr_unf) ?_
  | with_reducible refine s_isi (by decide) (by ktr_unf) ?_
  | with_reducible refine s_sliceT (by ktr_unf) (by ktr_unf) ?_
  | with_reducible refine s_srcT ?_
  | with_reducible refine s_call (by assumption) ?_
  | with_reducible refine s_ifF (by first | (simp; done) | (simp; omega)) ?_ | with_reducible refine s_ifT (by first | (simp; done) | (simp; omega)) ?_))

section
variable {W : Wd} {k : Nat}

theorem cell_at_ok (T : TopOk W) (F : FnOk W "_law_cell_at" p_law_cell_at b_law_cell_at) (i : Nat) (σ : Hp) (Q : VP) (X : XP) (h : Q (.int (W.ns.getD i 0)) σ) : callP W (k + 1) "_law_cell_at" [.script, .int i] σ Q X := by
  refine call_ok T F rfl ?_
  dsimp only [b_law_cell_at, p_law_cell_at, bindP]
  repeat tb_rel
  have hns : (glb W k).ns = W.ns := rfl
  by_cases hi : i < W.ns.length
  · refine s_ifT (by rw [hns]; simp; omega) ?_
    repeat tb_rel
    refine s_idxS (n := W.ns.getD i 0) ?_ h
    show pyGet W.ns i = _
    unfold pyGet
    rw [if_pos (by omega)]
    simp [List.getD, hi]
  · refine s_ifF (by rw [hns]; simp; omega) ?_
    have : W.ns.getD i 0 = 0 := by simp [List.getD, List.getElem?_eq_none (Nat.not_lt.mp hi)]
    rw [this] at h
    exact h

theorem rules_in_ok (T : TopOk W) (F : FnOk W "rules_in" p_rules_in b_rules_in) (r : Rule) (σ : Hp) (Q : VP) (X : XP) (h : ∀ a σ', σ a = none → σ.le σ' → σ' a = some (.lst (r.parts.map Rule.v)) → Q (.ref a) σ') : callP W (k + 1) "rules_in" [r.v] σ Q X := by
  refine call_ok T F rfl ?_
  dsimp only [b_rules_in, p_rules_in, bindP]
  cases r with
  | op o a b =>
    cases o <;> simp only [Rule.v, Op3.nm] <;> repeat tb_rel
    all_goals exact s_listT fun c hc => h c _ hc (Hp.le_set _ hc) (Hp.set_same _ _ _)
  | pick a b c =>
    dsimp only [Rule.v]
    repeat tb_rel
    exact s_listT fun c hc => h c _ hc (Hp.le_set _ hc) (Hp.set_same _ _ _)
  | look a x y b =>
    dsimp only [Rule.v]
    repeat tb_rel
    exact s_newG h
  | _ =>
    dsimp only [Rule.v]
    repeat tb_rel
    exact s_newG h

noncomputable def Ref.mv (x : Ref) (d e : Int) : Ref := ⟨if x.a then x.r else x.r + d, if x.b then x.c else x.c + e, x.a, x.b⟩
noncomputable def Rule.sh (d e : Int) : Rule → Rule
  | .num i => .num i
  | .cell x => .cell (x.mv d e)
  | .sum x y => .sum (x.mv d e) (y.mv d e)
  | .most x y => .most (x.mv d e) (y.mv d e)
  | .op o a b => .op o (a.sh d e) (b.sh d e)
  | .pick a b c => .pick (a.sh d e) (b.sh d e) (c.sh d e)
  | .look a x y b => .look (a.sh d e) (x.mv d e) (y.mv d e) (b.sh d e)

theorem moved_ok (T : TopOk W) (F : FnOk W "moved" p_moved b_moved) (x : Ref) (d e : Int) (σ : Hp) (Q : VP) (X : XP) (h : Q (x.mv d e).v σ) : callP W (k + 1) "moved" [x.v, .int d, .int e] σ Q X := by
  refine call_ok T F rfl ?_
  dsimp only [b_moved, p_moved, bindP]
  obtain ⟨r, c, a, b⟩ := x
  dsimp only [Ref.v]
  cases a <;> cases b <;> repeat tb_rel
  all_goals exact h

structure Env03 (W : Wd) : Prop where
  T : TopOk W
  typ : ∀ t ∈ typNames, W.glob t = some (.typ t)
  rules_in : FnOk W "rules_in" p_rules_in b_rules_in
  moved : FnOk W "moved" p_moved b_moved
  shifted : FnOk W "shifted" p_shifted b_shifted
  cell : FnOk W "_law_cell_at" p_law_cell_at b_law_cell_at
  ref_by : FnOk W "_law_ref_by" p_law_ref_by b_law_ref_by
  leaf_by : FnOk W "_law_leaf_by" p_law_leaf_by b_law_leaf_by
  pushed : FnOk W "_law_pushed" p_law_pushed b_law_pushed
  is_ref : FnOk W "_law_is_ref" p_law_is_ref b_law_is_ref
  lmoved : FnOk W "_law_moved" p_law_moved b_law_moved
  same : FnOk W "_law_same" p_law_same b_law_same
  law : FnOk W "law" p_law b_law
  names : ∀ f ∈ ["rules_in", "moved", "shifted", "_law_cell_at", "_law_ref_by", "_law_leaf_by", "_law_pushed", "_law_is_ref", "_law_moved", "_law_same"], f ∈ W.names

theorem Env03.has {W : Wd} (E : Env03 W) {k : Nat} {f : String} (h : f ∈ ["rules_in", "moved", "shifted", "_law_cell_at", "_law_ref_by", "_law_leaf_by", "_law_pushed", "_law_is_ref", "_law_moved", "_law_same"]) : (glb W k).has f = true := by
  simpa [glb] using E.names f h
theorem Env03.glob {W : Wd} (E : Env03 W) {k : Nat} {t : String} (h : t ∈ typNames) : (glb W k).glob t = some (.typ t) := E.typ t h

/-- the last line of shifted, over references -/
theorem tail_refs (E : Env03 W) {n : Nat} (hn : 1 ≤ n) (d e : Int) (nm : String) (xs : List Ref) (hx : xs ≠ []) (hl : xs.length ≤ 10) {ρ : Env} {σ : Hp} {N : NP} {Q : VP} {X : XPS} (h1 : ρ "rule" = some (.tup (.str nm :: xs.map Ref.v))) (h2 : ρ "down" = some (.int d)) (h3 : ρ "right" = some (.int e))
    (h : ∀ σ', σ.le σ' → Q (.tup (.str nm :: (xs.map fun x => (x.mv d e).v))) σ') :
    wpSs (glb W n) [.ret (.bin .add (.tup [.idx (.var "rule") (.num 0)]) (.bi .tuple [.comp (.call "moved" [.var "one", .var "down", .var "right"]) "one" (.of (.slice (.var "rule") (some (.num 1)) Option.none)) []]))] ρ σ N Q X := by
  have hm : (glb W n).has "moved" = true := E.has (by decide)
  repeat tb_rel
  rw [slice_tail]
  refine compL_lt Ref.v (fun x => (x.mv d e).v) (fun _ _ => trivial) (by unfold lenOk; omega) (fun x hx' σ₁ le₁ K' hK' => ?_) fun σ₁ le₁ => ?_
  · simp only [if_true]
    repeat tb_rel
    exact gcall hn (moved_ok (k := 0) E.T E.moved x d e σ₁ _ noX (hK' σ₁ (Hp.le_refl _)))
  refine s_newG fun a σ₂ _ le₂ ha => ?_
  refine s_tupG ha ?_
  refine s_cat ⟨by simp, by simpa using hx, by unfold lenOk; simp; omega⟩ ?_
  exact h σ₂ (Hp.le_trans le₁ le₂)

/-- and over rules -/
theorem tail_rules (E : Env03 W) {n : Nat} (d e : Int) (nm : String) (rs : List Rule) (hx : rs ≠ []) (hl : rs.length ≤ 10) {ρ : Env} {σ : Hp} {N : NP} {Q : VP} {X : XPS} (h1 : ρ "rule" = some (.tup (.str nm :: rs.map Rule.v))) (h2 : ρ "down" = some (.int d)) (h3 : ρ "right" = some (.int e))
    (hc : ∀ r ∈ rs, ∀ (σ : Hp) (Q : VP) (X : XP), (∀ σ', σ.le σ' → Q (r.sh d e).v σ') → callP W n "shifted" [r.v, .int d, .int e] σ Q X)
    (h : ∀ σ', σ.le σ' → Q (.tup (.str nm :: (rs.map fun x => (x.sh d e).v))) σ') :
    wpSs (glb W n) [.ret (.bin .add (.tup [.idx (.var "rule") (.num 0)]) (.bi .tuple [.comp (.call "shifted" [.var "one", .var "down", .var "right"]) "one" (.of (.slice (.var "rule") (some (.num 1)) Option.none)) []]))] ρ σ N Q X := by
  have hm : (glb W n).has "shifted" = true := E.has (by decide)
  repeat tb_rel
  rw [slice_tail]
  refine compL_lt Rule.v (fun x => (x.sh d e).v) (fun _ _ => trivial) (by unfold lenOk; omega) (fun r hr σ₁ le₁ K' hK' => ?_) fun σ₁ le₁ => ?_
  · simp only [if_true]
    repeat tb_rel
    exact gcall (Nat.le_refl _) (hc r hr σ₁ (fun v σ' => K' (some v) σ') noX hK')
  refine s_newG fun a σ₂ _ le₂ ha => ?_
  refine s_tupG ha ?_
  refine s_cat ⟨by simp, by simpa using hx, by unfold lenOk; simp; omega⟩ ?_
  exact h σ₂ (Hp.le_trans le₁ le₂)

theorem shifted_ok (E : Env03 W) (d e : Int) : ∀ (r : Rule), r.deep ≤ 40 → ∀ (σ : Hp) (Q : VP) (X : XP), (∀ σ', σ.le σ' → Q (r.sh d e).v σ') → callP W (r.deep + 2) "shifted" [r.v, .int d, .int e] σ Q X := by
  have hm : ∀ n, (glb W n).has "moved" = true := fun n => E.has (by decide)
  have hs : ∀ n, (glb W n).has "shifted" = true := fun n => E.has (by decide)
  have hr : ∀ n, (glb W n).has "rules_in" = true := fun n => E.has (by decide)
  intro r
  induction r with
  | num i =>
    intro hd σ Q X h
    refine call_ok E.T E.shifted rfl ?_
    dsimp only [b_shifted, p_shifted, bindP, Rule.v]
    repeat tb_rel
    exact h σ (Hp.le_refl σ)
  | cell x =>
    intro hd σ Q X h
    refine call_ok E.T E.shifted rfl ?_
    dsimp only [b_shifted, p_shifted, bindP]
    have hr' := hr ((Rule.cell x).deep + 1)
    dsimp only [Rule.v]
    repeat tb_rel
    refine gcall (m := 1) (by omega) (rules_in_ok (k := 0) E.T E.rules_in (.cell x) σ _ noX fun a σ₁ hn le₁ ha => ?_)
    refine s_newG fun b σ₂ _ le₂ hb => ?_
    refine s_neL0 (le₂ _ _ ha) hb (snap_rules _ _ _ (by simp [Rule.parts])) ?_
    refine s_truth rfl (s_ifF Bool.false_ne_true (st_nil ?_))
    refine tail_refs E (Nat.le_add_left 1 _) d e "cell" [x] (by simp) (by simp) (by rfl) (by rfl) (by rfl) fun σ' le => ?_
    exact h σ' (Hp.le_trans le₁ (Hp.le_trans le₂ le))
  | sum x y =>
    intro hd σ Q X h
    refine call_ok E.T E.shifted rfl ?_
    dsimp only [b_shifted, p_shifted, bindP]
    have hr' := hr ((Rule.sum x y).deep + 1)
    dsimp only [Rule.v]
    repeat tb_rel
    refine gcall (m := 1) (by omega) (rules_in_ok (k := 0) E.T E.rules_in (.sum x y) σ _ noX fun a σ₁ hn le₁ ha => ?_)
    refine s_newG fun b σ₂ _ le₂ hb => ?_
    refine s_neL0 (le₂ _ _ ha) hb (snap_rules _ _ _ (by simp [Rule.parts])) ?_
    refine s_truth rfl (s_ifF Bool.false_ne_true (st_nil ?_))
    refine tail_refs E (Nat.le_add_left 1 _) d e "sum" [x, y] (by simp) (by simp) (by rfl) (by rfl) (by rfl) fun σ' le => ?_
    exact h σ' (Hp.le_trans le₁ (Hp.le_trans le₂ le))
  | most x y =>
    intro hd σ Q X h
    refine call_ok E.T E.shifted rfl ?_
    dsimp only [b_shifted, p_shifted, bindP]
    have hr' := hr ((Rule.most x y).deep + 1)
    dsimp only [Rule.v]
    repeat tb_rel
    refine gcall (m := 1) (by omega) (rules_in_ok (k := 0) E.T E.rules_in (.most x y) σ _ noX fun a σ₁ hn le₁ ha => ?_)
    refine s_newG fun b σ₂ _ le₂ hb => ?_
    refine s_neL0 (le₂ _ _ ha) hb (snap_rules _ _ _ (by simp [Rule.parts])) ?_
    refine s_truth rfl (s_ifF Bool.false_ne_true (st_nil ?_))
    refine tail_refs E (Nat.le_add_left 1 _) d e "most" [x, y] (by simp) (by simp) (by rfl) (by rfl) (by rfl) fun σ' le => ?_
    exact h σ' (Hp.le_trans le₁ (Hp.le_trans le₂ le))
  | op o x y ihx ihy =>
    intro hd σ Q X h
    refine call_ok E.T E.shifted rfl ?_
    dsimp only [b_shifted, p_shifted, bindP]
    have hr' := hr ((Rule.op o x y).deep + 1)
    have hdx : x.deep ≤ 39 ∧ y.deep ≤ 39 := by simp only [Rule.deep] at hd; omega
    dsimp only [Rule.v]
    cases o <;> simp only [Op3.nm] <;> repeat tb_rel
    all_goals
      first
        | refine gcall (m := 1) (by omega) (rules_in_ok (k := 0) E.T E.rules_in (.op .add x y) σ _ noX fun a σ₁ hn le₁ ha => ?_)
        | refine gcall (m := 1) (by omega) (rules_in_ok (k := 0) E.T E.rules_in (.op .sub x y) σ _ noX fun a σ₁ hn le₁ ha => ?_)
        | refine gcall (m := 1) (by omega) (rules_in_ok (k := 0) E.T E.rules_in (.op .mul x y) σ _ noX fun a σ₁ hn le₁ ha => ?_)
      refine s_newG fun b σ₂ _ le₂ hb => ?_
      refine s_neL0 (le₂ _ _ ha) hb (snap_rules _ _ _ (by simp [Rule.parts]; omega)) ?_
      refine s_truth rfl (s_ifT rfl ?_)
      refine tail_rules E d e _ [x, y] (by simp) (by simp) (by rfl) (by rfl) (by rfl) (fun r hr σ Q X hq => ?_) fun σ' le => ?_
      · simp only [List.mem_cons, List.not_mem_nil, or_false] at hr
        rcases hr with rfl | rfl
        · exact callP_mono (X := noX) (X' := X) (by simp only [Rule.deep]; omega) (ihx (by omega) σ Q noX hq)
        · exact callP_mono (X := noX) (X' := X) (by simp only [Rule.deep]; omega) (ihy (by omega) σ Q noX hq)
      exact h σ' (Hp.le_trans le₁ (Hp.le_trans le₂ le))
  | pick x y z ihx ihy ihz =>
    intro hd σ Q X h
    refine call_ok E.T E.shifted rfl ?_
    dsimp only [b_shifted, p_shifted, bindP]
    have hr' := hr ((Rule.pick x y z).deep + 1)
    have hdx : x.deep ≤ 39 ∧ y.deep ≤ 39 ∧ z.deep ≤ 39 := by simp only [Rule.deep] at hd; omega
    dsimp only [Rule.v]
    repeat tb_rel
    refine gcall (m := 1) (by omega) (rules_in_ok (k := 0) E.T E.rules_in (.pick x y z) σ _ noX fun a σ₁ hn le₁ ha => ?_)
    refine s_newG fun b σ₂ _ le₂ hb => ?_
    refine s_neL0 (le₂ _ _ ha) hb (snap_rules _ _ _ (by simp [Rule.parts]; omega)) ?_
    refine s_truth rfl (s_ifT rfl ?_)
    refine tail_rules E d e _ [x, y, z] (by simp) (by simp) (by rfl) (by rfl) (by rfl) (fun r hr σ Q X hq => ?_) fun σ' le => ?_
    · simp only [List.mem_cons, List.not_mem_nil, or_false] at hr
      rcases hr with rfl | rfl | rfl
      · exact callP_mono (X := noX) (X' := X) (by simp only [Rule.deep]; omega) (ihx (by omega) σ Q noX hq)
      · exact callP_mono (X := noX) (X' := X) (by simp only [Rule.deep]; omega) (ihy (by omega) σ Q noX hq)
      · exact callP_mono (X := noX) (X' := X) (by simp only [Rule.deep]; omega) (ihz (by omega) σ Q noX hq)
    exact h σ' (Hp.le_trans le₁ (Hp.le_trans le₂ le))
  | look x p q y ihx ihy =>
    intro hd σ Q X h
    refine call_ok E.T E.shifted rfl ?_
    dsimp only [b_shifted, p_shifted, bindP]
    have hm' := hm ((Rule.look x p q y).deep + 1)
    have hs' := hs ((Rule.look x p q y).deep + 1)
    have hdx : x.deep ≤ 39 ∧ y.deep ≤ 39 := by simp only [Rule.deep] at hd; omega
    dsimp only [Rule.v]
    repeat tb_rel
    refine gcall (m := x.deep + 2) (by simp only [Rule.deep]; omega) (ihx (by omega) _ _ noX fun σ₁ le₁ => ?_)
    repeat tb_rel
    refine gcall (m := 1) (by omega) (moved_ok (k := 0) E.T E.moved p d e σ₁ _ noX ?_)
    repeat tb_rel
    refine gcall (m := 1) (by omega) (moved_ok (k := 0) E.T E.moved q d e σ₁ _ noX ?_)
    repeat tb_rel
    refine gcall (m := y.deep + 2) (by simp only [Rule.deep]; omega) (ihy (by omega) _ _ noX fun σ₂ le₂ => ?_)
    exact h σ₂ (Hp.le_trans le₁ le₂)
end
end RS

namespace RS
open PySem (PyData)
local macro_rules | `(tactic| ktr_unf) => `(tactic| (with_unfolding_all first | rfl | assumption))
local macro_rules | `(tactic| tb_rel) => `(tactic| (first
  | with_reducible refine s_get (by ktr_unf) ?_
  | (with_reducible refine st_cons ?_; dsimp only [wpS, wpT, wpE, wpEs, wpA, wpSrc, wpIfs, wpBop, wpO])
  | with_reducible refine st_nil ?_
  | with_reducible refine s_idxT (by ktr_unf) ?_
  | with_reducible refine s_add ?_ | with_reducible refine s_sub ?_ | with_reducible refine s_eqS ?_ | with_reducible refine s_eqI ?_ | with_reducible refine s_neI ?_ | with_reducible refine s_neS ?_
  | with_reducible refine s_lt ?_ | with_reducible refine s_le ?_ | with_reducible refine s_gt ?_ | with_reducible refine s_ge ?_
  | with_reducible refine s_truth (by ktr_unf) ?_
  | with_reducible refine s_ifT (by with_unfolding_all rfl) ?_ | with_reducible refine s_ifF Bool.false_ne_true ?_
  | with_reducible refine s_mod (by omega) ?_ | with_reducible refine s_fdiv (by unfold small; omega) ?_
  | with_reducible refine s_mul (by unfold small; omega) ?_
  | with_reducible refine s_pow (by unfold small; omega) ?_ | with_reducible refine s_neg ?_
  | with_reducible refine s_recv (s_recvL (by assumption) (by simp)) ?_
  | with_reducible refine s_min2 ?_ | with_reducible refine s_max2 ?_ | with_reducible refine s_lenT ?_ | with_reducible refine s_lenS ?_ | with_reducible refine s_int ?_
  | with_reducible refine s_lenL (by assumption) ?_
  | with_reducible refine s_idxL (by assumption) (by ktr_unf) ?_
  | with_reducible refine s_isi (by decide) (by ktr_unf) ?_
  | with_reducible refine s_sliceT (by ktr_unf) (by ktr_unf) ?_
  | with_reducible refine s_srcT ?_
  | with_reducible refine s_call (by assumption) ?_
  | with_reducible refine s_ifF (by first | (simp; done) | (simp; omega)) ?_ | with_reducible refine s_ifT (by first | (simp; done) | (simp; omega)) ?_))

section
variable {W : Wd} {k : Nat}

theorem Rule.isA_bool (r : Rule) (σ : Hp) : r.v.isA σ "bool" = some false := by cases r <;> rfl

theorem lm_str (E : Env03 W) (s : String) (d e : Int) (σ : Hp) (Q : VP) (h : Q (.str s) σ) : callP W 2 "_law_moved" [.str s, .int d, .int e] σ Q noX := by
  refine call_ok E.T E.lmoved rfl ?_
  dsimp only [b_law_moved, p_law_moved, bindP]
  have h1 : (glb W 1).has "_law_is_ref" = true := E.has (by decide)
  have h2 : (glb W 1).glob "tuple" = some (.typ "tuple") := E.glob (by decide)
  have h3 : (glb W 0).glob "tuple" = some (.typ "tuple") := E.glob (by decide)
  repeat tb_rel
  refine gcall (m := 1) (by omega) (call_ok E.T E.is_ref rfl ?_)
  dsimp only [b_law_is_ref, p_law_is_ref, bindP]
  repeat tb_rel
  exact h
theorem lm_int (E : Env03 W) (i : Int) (d e : Int) (σ : Hp) (Q : VP) (h : Q (.int i) σ) : callP W 2 "_law_moved" [.int i, .int d, .int e] σ Q noX := by
  refine call_ok E.T E.lmoved rfl ?_
  dsimp only [b_law_moved, p_law_moved, bindP]
  have h1 : (glb W 1).has "_law_is_ref" = true := E.has (by decide)
  have h2 : (glb W 1).glob "tuple" = some (.typ "tuple") := E.glob (by decide)
  have h3 : (glb W 0).glob "tuple" = some (.typ "tuple") := E.glob (by decide)
  repeat tb_rel
  refine gcall (m := 1) (by omega) (call_ok E.T E.is_ref rfl ?_)
  dsimp only [b_law_is_ref, p_law_is_ref, bindP]
  repeat tb_rel
  exact h
theorem lm_ref (E : Env03 W) (x : Ref) (d e : Int) (σ : Hp) (Q : VP) (h : Q (x.mv d e).v σ) : callP W 2 "_law_moved" [x.v, .int d, .int e] σ Q noX := by
  refine call_ok E.T E.lmoved rfl ?_
  dsimp only [b_law_moved, p_law_moved, bindP]
  have h1 : (glb W 1).has "_law_is_ref" = true := E.has (by decide)
  have h2 : (glb W 1).glob "tuple" = some (.typ "tuple") := E.glob (by decide)
  have h3 : (glb W 0).glob "tuple" = some (.typ "tuple") := E.glob (by decide)
  have h4 : (glb W 0).glob "bool" = some (.typ "bool") := E.glob (by decide)
  obtain ⟨r, c, a, b⟩ := x
  dsimp only [Ref.v]
  repeat tb_rel
  refine gcall (m := 1) (by omega) (call_ok E.T E.is_ref rfl ?_)
  dsimp only [b_law_is_ref, p_law_is_ref, bindP]
  cases a <;> cases b <;> repeat tb_rel
  all_goals simpa [Ref.mv, Ref.v] using h

theorem Rule.deep_pos (r : Rule) : 1 ≤ r.deep := by cases r <;> simp [Rule.deep]

theorem isref_no (E : Env03 W) (ps : List (V × V)) (hr : ps.length ≠ 4 ∨ ∃ v, ps[2]? = some v ∧ ∀ σ, v.1.isA σ "bool" = some false) (σ : Hp) (Q : VP) (h : Q (.bool false) σ) : callP W 1 "_law_is_ref" [.tup (ps.map Prod.fst)] σ Q noX := by
  have h3 : (glb W 0).glob "tuple" = some (.typ "tuple") := E.glob (by decide)
  have h4 : (glb W 0).glob "bool" = some (.typ "bool") := E.glob (by decide)
  refine call_ok E.T E.is_ref rfl ?_
  dsimp only [b_law_is_ref, p_law_is_ref, bindP]
  repeat tb_rel
  refine s_if (fun hh => ?_) (fun hh => ?_)
  · simp at hh
    rcases hr with hr | ⟨v, hv, hb⟩
    · exact absurd (by omega) hr
    repeat tb_rel
    refine s_idxT (v := v.1) ?_ ?_
    · simp [pyGet, hv]
    repeat tb_rel
    refine s_isi (by decide) (hb σ) ?_
    exact h
  · have : decide (((ps.map Prod.fst).length : Int) = 4) = false := by simp at hh ⊢; omega
    rw [this]; exact h

/-- the tuple of a rule is no reference: every part is moved -/
theorem lm_tup (E : Env03 W) {n : Nat} (hn : 2 ≤ n) (d e : Int) (ps : List (V × V)) (hl : ps.length ≤ 10) (hr : ps.length ≠ 4 ∨ ∃ v, ps[2]? = some v ∧ ∀ σ, v.1.isA σ "bool" = some false)
    (hc : ∀ p ∈ ps, ∀ (σ : Hp) (Q : VP), (∀ σ', σ.le σ' → Q p.2 σ') → callP W n "_law_moved" [p.1, .int d, .int e] σ Q noX) (σ : Hp) (Q : VP) (h : ∀ σ', σ.le σ' → Q (.tup (ps.map Prod.snd)) σ') :
    callP W (n + 1) "_law_moved" [.tup (ps.map Prod.fst), .int d, .int e] σ Q noX := by
  refine call_ok E.T E.lmoved rfl ?_
  dsimp only [b_law_moved, p_law_moved, bindP]
  have h1 : (glb W n).has "_law_is_ref" = true := E.has (by decide)
  have h1' : (glb W n).has "_law_moved" = true := E.has (by decide)
  have h2 : (glb W n).glob "tuple" = some (.typ "tuple") := E.glob (by decide)
  have h3 : (glb W 0).glob "tuple" = some (.typ "tuple") := E.glob (by decide)
  have h4 : (glb W 0).glob "bool" = some (.typ "bool") := E.glob (by decide)
  repeat tb_rel
  refine gcall (m := 1) (by omega) (isref_no E ps hr σ _ ?_)
  repeat tb_rel
  refine compL_lt Prod.fst Prod.snd (fun _ _ => trivial) (by unfold lenOk; omega) (fun p hp σ₁ le₁ K' hK' => ?_) fun σ₁ le₁ => ?_
  · simp only [if_true]
    repeat tb_rel
    exact gcall (Nat.le_refl _) (hc p hp σ₁ (fun v σ' => K' (some v) σ') hK')
  refine s_newG fun a σ₂ _ le₂ ha => ?_
  refine s_tupG ha ?_
  exact h σ₂ (Hp.le_trans le₁ le₂)

theorem lm_rule (E : Env03 W) (d e : Int) : ∀ (r : Rule) (σ : Hp) (Q : VP), (∀ σ', σ.le σ' → Q (r.sh d e).v σ') → callP W (r.deep + 2) "_law_moved" [r.v, .int d, .int e] σ Q noX := by
  have S : ∀ (s : String) (n : Nat), 2 ≤ n → ∀ (σ : Hp) (Q : VP), (∀ σ', σ.le σ' → Q (.str s) σ') → callP W n "_law_moved" [.str s, .int d, .int e] σ Q noX := fun s n hn σ Q h => callP_mono (X := noX) (X' := noX) hn (lm_str E s d e σ Q (h σ (Hp.le_refl _)))
  have I : ∀ (s : Int) (n : Nat), 2 ≤ n → ∀ (σ : Hp) (Q : VP), (∀ σ', σ.le σ' → Q (.int s) σ') → callP W n "_law_moved" [.int s, .int d, .int e] σ Q noX := fun s n hn σ Q h => callP_mono (X := noX) (X' := noX) hn (lm_int E s d e σ Q (h σ (Hp.le_refl _)))
  have R : ∀ (s : Ref) (n : Nat), 2 ≤ n → ∀ (σ : Hp) (Q : VP), (∀ σ', σ.le σ' → Q (s.mv d e).v σ') → callP W n "_law_moved" [s.v, .int d, .int e] σ Q noX := fun s n hn σ Q h => callP_mono (X := noX) (X' := noX) hn (lm_ref E s d e σ Q (h σ (Hp.le_refl _)))
  intro r
  induction r with
  | num i =>
    intro σ Q h
    refine lm_tup E (n := 2) (by omega) d e [(.str "num", .str "num"), (.int i, .int i)] (by simp) (.inl (by simp)) (fun p hp => ?_) σ Q h
    simp only [List.mem_cons, List.not_mem_nil, or_false] at hp
    rcases hp with rfl | rfl
    · exact S _ _ (by omega)
    · exact I _ _ (by omega)
  | cell x =>
    intro σ Q h
    refine lm_tup E (n := 2) (by omega) d e [(.str "cell", .str "cell"), (x.v, (x.mv d e).v)] (by simp) (.inl (by simp)) (fun p hp => ?_) σ Q h
    simp only [List.mem_cons, List.not_mem_nil, or_false] at hp
    rcases hp with rfl | rfl
    · exact S _ _ (by omega)
    · exact R _ _ (by omega)
  | sum x y =>
    intro σ Q h
    refine lm_tup E (n := 2) (by omega) d e [(.str "sum", .str "sum"), (x.v, (x.mv d e).v), (y.v, (y.mv d e).v)] (by simp) (.inl (by simp)) (fun p hp => ?_) σ Q h
    simp only [List.mem_cons, List.not_mem_nil, or_false] at hp
    rcases hp with rfl | rfl | rfl
    · exact S _ _ (by omega)
    · exact R _ _ (by omega)
    · exact R _ _ (by omega)
  | most x y =>
    intro σ Q h
    refine lm_tup E (n := 2) (by omega) d e [(.str "most", .str "most"), (x.v, (x.mv d e).v), (y.v, (y.mv d e).v)] (by simp) (.inl (by simp)) (fun p hp => ?_) σ Q h
    simp only [List.mem_cons, List.not_mem_nil, or_false] at hp
    rcases hp with rfl | rfl | rfl
    · exact S _ _ (by omega)
    · exact R _ _ (by omega)
    · exact R _ _ (by omega)
  | op o x y ihx ihy =>
    intro σ Q h
    have hx := x.deep_pos
    have hD : (Rule.op o x y).deep + 2 = (max x.deep y.deep + 2) + 1 := rfl
    rw [hD]
    refine lm_tup E (n := max x.deep y.deep + 2) (by omega) d e [(.str o.nm, .str o.nm), (x.v, (x.sh d e).v), (y.v, (y.sh d e).v)] (by simp) (.inl (by simp)) (fun p hp => ?_) σ Q h
    simp only [List.mem_cons, List.not_mem_nil, or_false] at hp
    rcases hp with rfl | rfl | rfl
    · exact S _ _ (by omega)
    · exact fun σ Q h => callP_mono (X := noX) (X' := noX) (by omega) (ihx σ Q h)
    · exact fun σ Q h => callP_mono (X := noX) (X' := noX) (by omega) (ihy σ Q h)
  | pick x y z ihx ihy ihz =>
    intro σ Q h
    have hx := x.deep_pos
    have hD : (Rule.pick x y z).deep + 2 = (max x.deep (max y.deep z.deep) + 2) + 1 := rfl
    rw [hD]
    refine lm_tup E (n := max x.deep (max y.deep z.deep) + 2) (by omega) d e [(.str "pick", .str "pick"), (x.v, (x.sh d e).v), (y.v, (y.sh d e).v), (z.v, (z.sh d e).v)] (by simp) (.inr ⟨_, rfl, fun σ => y.isA_bool σ⟩) (fun p hp => ?_) σ Q h
    simp only [List.mem_cons, List.not_mem_nil, or_false] at hp
    rcases hp with rfl | rfl | rfl | rfl
    · exact S _ _ (by omega)
    · exact fun σ Q h => callP_mono (X := noX) (X' := noX) (by omega) (ihx σ Q h)
    · exact fun σ Q h => callP_mono (X := noX) (X' := noX) (by omega) (ihy σ Q h)
    · exact fun σ Q h => callP_mono (X := noX) (X' := noX) (by omega) (ihz σ Q h)
  | look x p q y ihx ihy =>
    intro σ Q h
    have hx := x.deep_pos
    have hD : (Rule.look x p q y).deep + 2 = (max x.deep y.deep + 2) + 1 := rfl
    rw [hD]
    refine lm_tup E (n := max x.deep y.deep + 2) (by omega) d e [(.str "look", .str "look"), (x.v, (x.sh d e).v), (p.v, (p.mv d e).v), (q.v, (q.mv d e).v), (y.v, (y.sh d e).v)] (by simp) (.inl (by simp)) (fun p hp => ?_) σ Q h
    simp only [List.mem_cons, List.not_mem_nil, or_false] at hp
    rcases hp with rfl | rfl | rfl | rfl | rfl
    · exact S _ _ (by omega)
    · exact fun σ Q h => callP_mono (X := noX) (X' := noX) (by omega) (ihx σ Q h)
    · exact R _ _ (by omega)
    · exact R _ _ (by omega)
    · exact fun σ Q h => callP_mono (X := noX) (X' := noX) (by omega) (ihy σ Q h)

/-! ### the same -/
noncomputable def Plain : Nat → V → Prop
  | _, .int _ => True
  | _, .bool _ => True
  | _, .str _ => True
  | n + 1, .tup vs => vs.length ≤ 10 ∧ ∀ v ∈ vs, Plain n v
  | _, _ => False

theorem plain_up : ∀ (n : Nat) (v : V), Plain n v → Plain (n + 1) v
  | _, .int _, _ => trivial
  | _, .bool _, _ => trivial
  | _, .str _, _ => trivial
  | 0, .tup _, h => h.elim
  | n + 1, .tup vs, h => ⟨h.1, fun v hv => plain_up n v (h.2 v hv)⟩
  | 0, .none, h => h.elim
  | 0, .ref _, h => h.elim
  | 0, .script, h => h.elim
  | 0, .typ _, h => h.elim
  | 0, .cls _, h => h.elim
  | 0, .exc _, h => h.elim
  | _ + 1, .none, h => h.elim
  | _ + 1, .ref _, h => h.elim
  | _ + 1, .script, h => h.elim
  | _ + 1, .typ _, h => h.elim
  | _ + 1, .cls _, h => h.elim
  | _ + 1, .exc _, h => h.elim
theorem plain_le {n m : Nat} {v : V} (h : Plain n v) (hl : n ≤ m) : Plain m v := by
  induction hl with
  | refl => exact h
  | step _ ih => exact plain_up _ _ ih
theorem plain_tup {n : Nat} {vs : List V} (hl : vs.length ≤ 10) (h : ∀ v ∈ vs, Plain n v) : Plain (n + 1) (.tup vs) := ⟨hl, h⟩
theorem plain_ref (x : Ref) (n : Nat) : Plain (n + 1) x.v := plain_tup (by simp) (by simp; cases n <;> simp [Plain])
theorem plain_str (n : Nat) (s : String) : Plain n (.str s) := by cases n <;> trivial
theorem plain_int (n : Nat) (s : Int) : Plain n (.int s) := by cases n <;> trivial
theorem plain_rule : ∀ (r : Rule), Plain (r.deep + 1) r.v := by
  intro r
  induction r with
  | num i => exact plain_tup (by simp) (by simp [plain_str, plain_int])
  | cell x => exact plain_tup (by simp) (by simp [plain_str, plain_ref, Rule.deep])
  | sum x y => exact plain_tup (by simp) (by simp [plain_str, plain_ref, Rule.deep])
  | most x y => exact plain_tup (by simp) (by simp [plain_str, plain_ref, Rule.deep])
  | op o x y ihx ihy => exact plain_tup (by simp) (by simp [plain_str, Rule.deep]; exact ⟨plain_le ihx (by omega), plain_le ihy (by omega)⟩)
  | pick x y z ihx ihy ihz => exact plain_tup (by simp) (by simp [plain_str, Rule.deep]; exact ⟨plain_le ihx (by omega), plain_le ihy (by omega), plain_le ihz (by omega)⟩)
  | look x p q y ihx ihy => exact plain_tup (by simp) (by simp [plain_str, plain_ref, Rule.deep]; exact ⟨plain_le ihx (by omega), plain_le ihy (by omega)⟩)

theorem same_ok (E : Env03 W) : ∀ (n : Nat) (v : V), Plain n v → ∀ (σ : Hp) (Q : VP), Q (.bool true) σ → callP W (n + 1) "_law_same" [v, v] σ Q noX := by
  intro n
  induction n with
  | zero =>
    intro v hv σ Q h
    refine call_ok E.T E.same rfl ?_
    have h1 : (glb W 0).glob "tuple" = some (.typ "tuple") := E.glob (by decide)
    have h2 : (glb W 0).glob "bool" = some (.typ "bool") := E.glob (by decide)
    have h3 : (glb W 0).glob "int" = some (.typ "int") := E.glob (by decide)
    have h4 : (glb W 0).glob "str" = some (.typ "str") := E.glob (by decide)
    dsimp only [b_law_same, p_law_same, bindP]
    cases v with
    | int i => repeat tb_rel
               simpa using h
    | bool b =>
      repeat tb_rel
      refine ⟨.bool b, .bool b, ⟨rfl, rfl⟩, ?_⟩
      simpa [PyData.eqv] using h
    | str s => repeat tb_rel
               simpa using h
    | _ => exact hv.elim
  | succ n ih =>
    intro v hv σ Q h
    refine call_ok E.T E.same rfl ?_
    have h1 : (glb W (n + 1)).glob "tuple" = some (.typ "tuple") := E.glob (by decide)
    have h2 : (glb W (n + 1)).glob "bool" = some (.typ "bool") := E.glob (by decide)
    have h3 : (glb W (n + 1)).glob "int" = some (.typ "int") := E.glob (by decide)
    have h4 : (glb W (n + 1)).glob "str" = some (.typ "str") := E.glob (by decide)
    have h5 : (glb W (n + 1)).has "_law_same" = true := E.has (by decide)
    dsimp only [b_law_same, p_law_same, bindP]
    cases v with
    | int i => repeat tb_rel
               simpa using h
    | bool b =>
      repeat tb_rel
      refine ⟨.bool b, .bool b, ⟨rfl, rfl⟩, ?_⟩
      simpa [PyData.eqv] using h
    | str s => repeat tb_rel
               simpa using h
    | tup vs =>
      repeat tb_rel
      refine s_range (by unfold lenOk; have := hv.1; omega) ?_
      refine forL_range (fun i ρ σ' => σ' = σ ∧ ρ "_law_found" = some (.tup vs) ∧ ρ "_law_due" = some (.tup vs)) ⟨rfl, rfl, rfl⟩ (fun _ => trivial) (fun i ρ σ' N' hi hI hN => ?_) fun ρ σ' hI => ?_
      · obtain ⟨rfl, hf, hd⟩ := hI
        have hi' : i < vs.length := by omega
        have hg : pyGet vs (0 + (i : Int)) = some vs[i] := by simp [pyGet, hi']
        have hf' : (ρ.set "_law_k" (V.int (0 + ↑i))) "_law_found" = some (.tup vs) := by rw [Env.set_ne _ _ (by decide)]; exact hf
        have hd' : (ρ.set "_law_k" (V.int (0 + ↑i))) "_law_due" = some (.tup vs) := by rw [Env.set_ne _ _ (by decide)]; exact hd
        repeat tb_rel
        refine gcall (Nat.le_refl _) (ih vs[i] (hv.2 _ (List.getElem_mem hi')) _ _ ?_)
        repeat tb_rel
        exact hN _ _ ⟨rfl, hf', hd'⟩
      · obtain ⟨rfl, hf, hd⟩ := hI
        repeat tb_rel
        exact h
    | _ => exact hv.elim
end
end RS

namespace RS
open PySem (PyData)
local macro_rules | `(tactic| ktr_unf) => `(tactic| (with_unfolding_all first | rfl | assumption))
local macro_rules | `(tactic| tb_rel) => `(tactic| (first
  | with_reducible refine s_get (by ktr_unf) ?_
  | (with_reducible refine st_cons ?_; dsimp only [wpS, wpT, wpE, wpEs, wpA, wpSrc, wpIfs, wpBop, wpO])
  | with_reducible refine st_nil ?_
  | with_reducible refine s_idxT (by ktr_unf) ?_
  | with_reducible refine s_add ?_ | with_reducible refine s_sub ?_ | with_reducible refine s_eqS ?_ | with_reducible refine s_eqI ?_ | with_reducible refine s_neI ?_ | with_reducible refine s_neS ?_
  | with_reducible refine s_lt ?_ | with_reducible refine s_le ?_ | with_reducible refine s_gt ?_ | with_reducible refine s_ge ?_
  | with_reducible refine s_truth (by ktr_unf) ?_
  | with_reducible refine s_ifT (by with_unfolding_all rfl) ?_ | with_reducible refine s_ifF Bool.false_ne_true ?_
  | with_reducible refine s_mod (by omega) ?_ | with_reducible refine s_fdiv (by unfold small; omega) ?_
  | with_reducible refine s_mul (by unfold small; omega) ?_
  | with_reducible refine s_pow (by unfold small; omega) ?_ | with_reducible refine s_neg ?_
  | with_reducible refine s_recv (s_recvL (by assumption) (by simp)) ?_
  | with_reducible refine s_min2 ?_ | with_reducible refine s_max2 ?_ | with_reducible refine s_lenT ?_ | with_reducible refine s_lenS ?_ | with_reducible refine s_int ?_
  | with_reducible refine s_lenL (by assumption) ?_
  | with_reducible refine s_idxL (by assumption) (by ktr_unf) ?_
  | with_reducible refine s_isi (by decide) (by ktr_unf) ?_
  | with_reducible refine s_sliceT (by ktr_unf) (by ktr_unf) ?_
  | with_reducible refine s_srcT ?_
  | with_reducible refine s_call (by assumption) ?_
  | with_reducible refine s_ifF (by first | (simp; done) | (simp; omega)) ?_ | with_reducible refine s_ifT (by first | (simp; done) | (simp; omega)) ?_))

section
variable {W : Wd} {k : Nat}

theorem ref_by_ok (E : Env03 W) (c : Int) (σ : Hp) (Q : VP) (h : ∀ x : Ref, Q x.v σ) : callP W 1 "_law_ref_by" [.int c] σ Q noX := by
  refine call_ok E.T E.ref_by rfl ?_
  dsimp only [b_law_ref_by, p_law_ref_by, bindP]
  repeat tb_rel
  exact h ⟨_, _, _, _⟩

theorem leaf_by_ok (E : Env03 W) (c : Int) (σ : Hp) (Q : VP) (h : ∀ r : Rule, r.deep = 1 → Q r.v σ) : callP W 2 "_law_leaf_by" [.int c] σ Q noX := by
  have h1 : (glb W 1).has "_law_ref_by" = true := E.has (by decide)
  refine call_ok E.T E.leaf_by rfl ?_
  dsimp only [b_law_leaf_by, p_law_leaf_by, bindP]
  repeat tb_rel
  refine s_if (fun h0 => ?_) (fun h0 => ?_)
  · repeat tb_rel
    refine s_mod (by decide) ?_
    repeat tb_rel
    exact h (.num _) rfl
  repeat tb_rel
  refine s_if (fun h1 => ?_) (fun h1 => ?_)
  · repeat tb_rel
    refine gcall (m := 1) (by omega) (ref_by_ok E _ _ _ fun x => ?_)
    repeat tb_rel
    refine gcall (m := 1) (by omega) (ref_by_ok E _ _ _ fun y => ?_)
    exact h (.sum x y) rfl
  repeat tb_rel
  refine s_if (fun h1 => ?_) (fun h1 => ?_)
  · repeat tb_rel
    refine gcall (m := 1) (by omega) (ref_by_ok E _ _ _ fun x => ?_)
    repeat tb_rel
    refine gcall (m := 1) (by omega) (ref_by_ok E _ _ _ fun y => ?_)
    exact h (.most x y) rfl
  repeat tb_rel
  refine gcall (m := 1) (by omega) (ref_by_ok E _ _ _ fun x => ?_)
  exact h (.cell x) rfl

theorem pushed_ok (E : Env03 W) (rs : List Rule) (m : Nat) (hm : 1 ≤ m) (hd : ∀ r ∈ rs, r.deep ≤ m) (hl : rs.length ≤ 1000) (c : Int) (a : Nat) (σ : Hp) (ha : σ a = some (.lst (rs.map Rule.v))) (Q : VP)
    (h : ∀ rs' b σ', rs' ≠ [] → (∀ r ∈ rs', r.deep ≤ m + 1) → rs'.length ≤ rs.length + 1 → σ.le σ' → σ' b = some (.lst (rs'.map Rule.v)) → Q (.ref b) σ') : callP W 3 "_law_pushed" [.ref a, .int c] σ Q noX := by
  have h1 : (glb W 2).has "_law_ref_by" = true := E.has (by decide)
  have h2 : (glb W 2).has "_law_leaf_by" = true := E.has (by decide)
  refine call_ok E.T E.pushed rfl ?_
  dsimp only [b_law_pushed, p_law_pushed, bindP]
  have tail : ∀ (pre : List Rule) (r : Rule) (a₁ a₂ : Nat) (σ₁ : Hp), (∀ x ∈ pre, x.deep ≤ m) → pre.length ≤ rs.length → r.deep ≤ m + 1 → σ.le σ₁ → σ₁ a₁ = some (.lst (pre.map Rule.v)) → σ₁ a₂ = some (.lst [r.v]) → binP .add (.ref a₁) (.ref a₂) σ₁ Q := by
    intro pre r a₁ a₂ σ₁ hp hpl hr le h₁ h₂
    refine s_lcat h₁ h₂ (by unfold lenOk; simp; omega) fun b hb => ?_
    refine h (pre ++ [r]) b _ (by simp) (fun x hx => ?_) (by simp; omega) (Hp.le_trans le (Hp.le_set _ hb)) (by simp [Hp.set_same])
    simp only [List.mem_append, List.mem_singleton] at hx
    rcases hx with hx | rfl
    · have := hp x hx; omega
    · exact hr
  have key : ∀ (ρ : Env) (mo : Int) (N : NP) (X : XPS), ρ "_law_stack" = some (.ref a) → ρ "_law_cell" = some (.int c) → ρ "_law_more" = some (.int mo) → wpSs (glb W 2) (b_law_pushed.drop 1) ρ σ N Q X := by
    intro ρ mo N X e1 e2 e3
    have R4 : wpSs (glb W 2) (b_law_pushed.drop 4) ρ σ N Q X := by
      simp only [b_law_pushed, List.drop]
      repeat tb_rel
      refine gcall (m := 2) (by omega) (leaf_by_ok E _ _ _ fun r hr => ?_)
      refine s_newG fun b σ₂ _ le₂ hb => ?_
      exact tail rs r _ _ _ hd (Nat.le_refl _) (by omega) le₂ (le₂ _ _ ha) hb
    have R3 : wpSs (glb W 2) (b_law_pushed.drop 3) ρ σ N Q X := by
      simp only [b_law_pushed, List.drop]
      repeat tb_rel
      refine s_if (fun h0 => ?_) (fun h0 => ?_)
      · repeat tb_rel
        refine s_if (fun h1 => ?_) (fun h1 => ?_)
        · simp at h1
          obtain ⟨pre, x, y, rfl⟩ := last2 (l := rs) (by omega)
          simp only [List.mem_append, List.mem_cons, List.not_mem_nil, or_false] at hd
          simp only [List.map_append, List.map] at ha
          repeat tb_rel
          refine gcall (m := 1) (by omega) (ref_by_ok E _ _ _ fun p => ?_)
          repeat tb_rel
          refine s_sliceL ha rfl rfl fun b hb => ?_
          rw [slice_end _ _ (by omega) (by simp)]
          have hb' := Hp.set_same σ b (.lst (pre.map Rule.v))
          have le := Hp.le_set (.lst (pre.map Rule.v)) hb
          have ha' := le _ _ ha
          repeat tb_rel
          refine s_idxL ha' (get_end (v := x.v) _ _ (by omega) (by simp) rfl) ?_
          repeat tb_rel
          refine gcall (m := 1) (by omega) (ref_by_ok E _ _ _ fun q => ?_)
          repeat tb_rel
          refine s_idxL ha' (get_end (v := y.v) _ _ (by omega) (by simp) rfl) ?_
          refine s_newG fun b' σ₂ _ le₂ hb2 => ?_
          refine tail pre (.look x q p y) _ _ _ (fun z hz => hd z (.inl hz)) (by simp) ?_ (Hp.le_trans le le₂) (le₂ _ _ hb') hb2
          have := hd x (.inr (.inl rfl)); have := hd y (.inr (.inr rfl))
          simp only [Rule.deep]; omega
        · exact st_nil R4
      · exact s_truth rfl (s_ifF h0 (st_nil R4))
    have R2 : wpSs (glb W 2) (b_law_pushed.drop 2) ρ σ N Q X := by
      simp only [b_law_pushed, List.drop]
      repeat tb_rel
      refine s_if (fun h0 => ?_) (fun h0 => ?_)
      · repeat tb_rel
        refine s_if (fun h1 => ?_) (fun h1 => ?_)
        · simp at h1
          obtain ⟨pre, x, y, z, rfl⟩ := last3 (l := rs) (by omega)
          simp only [List.mem_append, List.mem_cons, List.not_mem_nil, or_false] at hd
          simp only [List.map_append, List.map] at ha
          repeat tb_rel
          refine s_sliceL ha rfl rfl fun b hb => ?_
          rw [slice_end _ _ (by omega) (by simp)]
          have hb' := Hp.set_same σ b (.lst (pre.map Rule.v))
          have le := Hp.le_set (.lst (pre.map Rule.v)) hb
          have ha' := le _ _ ha
          repeat tb_rel
          refine s_idxL ha' (get_end (v := x.v) _ _ (by omega) (by simp) rfl) ?_
          repeat tb_rel
          refine s_idxL ha' (get_end (v := y.v) _ _ (by omega) (by simp) rfl) ?_
          repeat tb_rel
          refine s_idxL ha' (get_end (v := z.v) _ _ (by omega) (by simp) rfl) ?_
          refine s_newG fun b' σ₂ _ le₂ hb2 => ?_
          refine tail pre (.pick x y z) _ _ _ (fun z hz => hd z (.inl hz)) (by simp) ?_ (Hp.le_trans le le₂) (le₂ _ _ hb') hb2
          have := hd x (.inr (.inl rfl)); have := hd y (.inr (.inr (.inl rfl))); have := hd z (.inr (.inr (.inr rfl)))
          simp only [Rule.deep]; omega
        · exact st_nil R3
      · exact s_truth rfl (s_ifF h0 (st_nil R3))
    simp only [b_law_pushed, List.drop]
    repeat tb_rel
    refine s_if (fun h0 => ?_) (fun h0 => ?_)
    · repeat tb_rel
      refine s_if (fun h1 => ?_) (fun h1 => ?_)
      · simp at h1 h0
        obtain ⟨pre, x, y, rfl⟩ := last2 (l := rs) (by omega)
        simp only [List.mem_append, List.mem_cons, List.not_mem_nil, or_false] at hd
        simp only [List.map_append, List.map] at ha
        repeat tb_rel
        refine s_sliceL ha rfl rfl fun b hb => ?_
        rw [slice_end _ _ (by omega) (by simp)]
        have hb' := Hp.set_same σ b (.lst (pre.map Rule.v))
        have le := Hp.le_set (.lst (pre.map Rule.v)) hb
        have ha' := le _ _ ha
        repeat tb_rel
        refine s_newG fun b2 σ₁ _ le₁ hb1 => ?_
        repeat tb_rel
        have hop : ∃ o : Op3, pyGet [V.str "add", V.str "sub", V.str "mul"] (c % 12) = some (.str o.nm) := by
          rcases (by omega : c % 12 = 0 ∨ c % 12 = 1 ∨ c % 12 = 2) with e | e | e <;> rw [e]
          · exact ⟨.add, rfl⟩
          · exact ⟨.sub, rfl⟩
          · exact ⟨.mul, rfl⟩
        obtain ⟨o, ho⟩ := hop
        refine s_idxL hb1 ho ?_
        repeat tb_rel
        refine s_idxL (le₁ _ _ ha') (get_end (v := x.v) _ _ (by omega) (by simp) rfl) ?_
        repeat tb_rel
        refine s_idxL (le₁ _ _ ha') (get_end (v := y.v) _ _ (by omega) (by simp) rfl) ?_
        refine s_newG fun b' σ₂ _ le₂ hb2 => ?_
        refine tail pre (.op o x y) _ _ _ (fun z hz => hd z (.inl hz)) (by simp) ?_ (Hp.le_trans (Hp.le_trans le le₁) le₂) (le₂ _ _ (le₁ _ _ hb')) hb2
        have := hd x (.inr (.inl rfl)); have := hd y (.inr (.inr rfl))
        simp only [Rule.deep]; omega
      · exact st_nil R2
    · exact s_truth rfl (s_ifF h0 (st_nil R2))
  refine st_cons ?_
  dsimp only [wpS, wpE, wpA]
  refine s_get rfl (s_fdiv (by unfold small; omega) ?_)
  exact key _ _ _ _ rfl rfl rfl

theorem Rule.deep_sh (d e : Int) (r : Rule) : (r.sh d e).deep = r.deep := by
  induction r <;> simp_all [Rule.sh, Rule.deep]
theorem Ref.mv_mv (x : Ref) (d e : Int) : (x.mv d e).mv (0 - d) (0 - e) = x := by
  obtain ⟨r, c, a, b⟩ := x
  cases a <;> cases b <;> simp [Ref.mv] <;> omega
theorem Rule.sh_sh (d e : Int) (r : Rule) : (r.sh d e).sh (0 - d) (0 - e) = r := by
  have M : ∀ x : Ref, (x.mv d e).mv (-d) (-e) = x := fun x => by have := x.mv_mv d e; simpa using this
  induction r <;> simp_all [Rule.sh]

theorem law03 (E : Env03 W) (σ : Hp) : callP W 40 "law" [.script] σ (fun v _ => v = .bool true) noX := by
  have h1 : (glb W 39).has "_law_pushed" = true := E.has (by decide)
  have h2 : (glb W 39).has "_law_cell_at" = true := E.has (by decide)
  have h3 : (glb W 39).has "shifted" = true := E.has (by decide)
  have h4 : (glb W 39).has "_law_moved" = true := E.has (by decide)
  have h5 : (glb W 39).has "_law_same" = true := E.has (by decide)
  refine call_ok E.T E.law rfl ?_
  dsimp only [b_law, p_law, bindP]
  refine st_cons ?_
  dsimp only [wpS, wpE, wpEs, wpA]
  refine s_newG fun a σ₁ _ le₁ ha => ?_
  refine st_cons ?_
  dsimp only [wpS, wpE, wpEs, wpO, wpSrc]
  refine s_get rfl (s_sliceS rfl rfl fun b hb => ?_)
  have hns : (glb W 39).ns = W.ns := rfl
  rw [hns]
  have hlen : (pySlice W.ns (some 2) (some 26)).length ≤ 24 := by
    simp only [pySlice, clipLo, clipHi, clip]
    simp
    omega
  have hb' := Hp.set_same σ₁ b (.lst ((pySlice W.ns (some 2) (some 26)).map .int))
  have le₂ := Hp.le_set (.lst ((pySlice W.ns (some 2) (some 26)).map .int)) hb
  refine s_srcL hb' ?_
  generalize hσ : σ₁.set b (.lst ((pySlice W.ns (some 2) (some 26)).map .int)) = σ₂ at *
  generalize hi : (pySlice W.ns (some 2) (some 26)) = items at *
  refine forL_inv (fun pre ρ σ' => ∃ rs a, rs ≠ [] ∧ (∀ r ∈ rs, r.deep ≤ pre.length + 1) ∧ rs.length ≤ pre.length + 1 ∧ σ' a = some (.lst (rs.map Rule.v)) ∧ σ' b = some (.lst (items.map .int)) ∧ ρ "_law_stack" = some (.ref a) ∧ ρ "_law_script" = some .script) ?_ ?_ ?_ ?_
  · exact ⟨[.num 7], a, by simp, by simp [Rule.deep], by simp, le₂ _ _ ha, hb', rfl, rfl⟩
  · rintro pre ρ σ' ⟨rs, a, _, _, _, _, hc, _⟩
    exact hc
  · rintro pre v post ρ σ' N' hsp ⟨rs, a, hne, hd, hl, hst, hc, e1, e2⟩ hN
    have hpl : pre.length + 1 ≤ 24 := by
      have := congrArg List.length hsp
      simp at this; omega
    obtain ⟨i, -, rfl⟩ : ∃ i, i ∈ items ∧ V.int i = v := by
      have : v ∈ items.map V.int := by rw [hsp]; simp
      simpa using this
    have e1' : (ρ.set "_law_cell" (.int i)) "_law_stack" = some (.ref a) := by rw [Env.set_ne _ _ (by decide)]; exact e1
    refine st_cons ?_
    dsimp only [wpS, wpE, wpEs, wpA]
    refine s_call h1 (s_get e1' (s_get (Env.set_same _ _ _) ?_))
    refine gcall (m := 3) (by omega) (pushed_ok E rs (pre.length + 1) (by omega) hd (by omega) i a σ' hst _ fun rs' c σ'' hne' hd' hl' le hc' => ?_)
    refine st_nil (hN _ _ ⟨rs', c, hne', ?_, ?_, hc', le _ _ hc, Env.set_same _ _ _, ?_⟩)
    · simpa using hd'
    · simp; omega
    · rw [Env.set_ne _ _ (by decide), Env.set_ne _ _ (by decide)]; exact e2
  · rintro ρ σ' ⟨rs, a, hne, hd, hl, hst, hc, e1, e2⟩
    obtain ⟨pre, r, rfl⟩ := last1 hne
    have hr : r.deep ≤ 25 := by have := hd r (by simp); simp at this; omega
    refine st_cons ?_
    dsimp only [wpS, wpE, wpEs, wpA]
    refine s_get e1 (s_neg (s_idxL hst (v := r.v) ?_ ?_))
    · rw [List.map_append]; exact get_end _ _ (by omega) (by simp) rfl
    refine st_cons ?_
    dsimp only [wpS, wpE, wpEs, wpA]
    refine s_newG fun c σ₃ _ le₃ hc3 => ?_
    refine st_cons ?_
    dsimp only [wpS, wpE, wpEs, wpA, wpSrc]
    refine s_range (by unfold lenOk; simp) ?_
    refine forL_range (fun i ρ σ' => ∃ ss : List Int, ss.length = i ∧ σ' c = some (.lst (ss.map .int)) ∧ ρ "_law_steps" = some (.ref c) ∧ ρ "_law_script" = some .script ∧ ρ "_law_rule" = some r.v) ?_ (fun _ => trivial) ?_ ?_
    · refine ⟨[], rfl, hc3, rfl, ?_, ?_⟩
      · rw [Env.set_ne _ _ (by decide), Env.set_ne _ _ (by decide)]; exact e2
      · rw [Env.set_ne _ _ (by decide)]; exact Env.set_same _ _ _
    · rintro i ρ σ' N' hi2 ⟨ss, hsl, hss, e3, e4, e5⟩ hN
      have e3' : (ρ.set "_law_k" (.int (0 + ↑i))) "_law_steps" = some (.ref c) := by rw [Env.set_ne _ _ (by decide)]; exact e3
      have e4' : (ρ.set "_law_k" (.int (0 + ↑i))) "_law_script" = some .script := by rw [Env.set_ne _ _ (by decide)]; exact e4
      have e5' : (ρ.set "_law_k" (.int (0 + ↑i))) "_law_rule" = some r.v := by rw [Env.set_ne _ _ (by decide)]; exact e5
      have e6' := Env.set_same ρ "_law_k" (.int (0 + ↑i))
      generalize ρ.set "_law_k" (.int (0 + ↑i)) = ρ₁ at *
      simp only [Int.zero_add] at e6'
      have fin : ∀ (ρ₂ : Env) (st : Int) (R : VP) (X : XPS), ρ₂ "_law_steps" = some (.ref c) → ρ₂ "_law_script" = some .script → ρ₂ "_law_rule" = some r.v → ρ₂ "_law_step" = some (.int st) → wpSs (glb W 39) [.expr (.meth (.var "_law_steps") .append [.var "_law_step"])] ρ₂ σ' N' R X := by
        intro ρ₂ st R X f1 f2 f3 f4
        repeat tb_rel
        refine s_appendG hss (by unfold lenOk; simp; omega) fun σ₄ hbut hnew => ?_
        refine st_nil (hN _ _ ⟨ss ++ [st], by simp [hsl], by simpa using hnew, f1, f2, f3⟩)
      refine st_cons ?_
      dsimp only [wpS, wpE, wpEs, wpA]
      refine s_call h2 (s_get e4' (s_get e6' ?_))
      refine gcall (m := 1) (by omega) (cell_at_ok (k := 0) E.T E.cell i _ _ _ ?_)
      refine s_mod (by omega) (s_sub ?_)
      refine st_cons ?_
      dsimp only [wpS, wpT, wpE, wpEs, wpA]
      refine s_call h2 (s_get (v := .script) ?_ ?_)
      · rw [Env.set_ne _ _ (by decide)]; exact e4'
      refine gcall (m := 1) (by omega) (cell_at_ok (k := 0) E.T E.cell 0 _ _ _ ?_)
      refine s_fdiv (by unfold small; omega) (s_mod (by omega) (s_eqI (s_truth rfl ?_)))
      refine s_if (fun _ => ?_) (fun _ => ?_)
      · refine st_cons ?_
        dsimp only [wpS, wpT, wpE, wpEs, wpA]
        refine s_get (Env.set_same _ _ _) (s_pow (by unfold small; omega) (s_mul (.inl (by unfold small; omega)) ?_))
        refine s_call h2 (s_get (v := .script) ?_ (s_get (v := .int i) ?_ ?_))
        · rw [Env.set_ne _ _ (by decide)]; exact e4'
        · rw [Env.set_ne _ _ (by decide)]; exact e6'
        refine gcall (m := 1) (by omega) (cell_at_ok (k := 0) E.T E.cell i _ _ _ ?_)
        refine s_fdiv (by unfold small; omega) (s_mod (by omega) (s_add ?_))
        refine st_nil (fin _ _ _ _ ?_ ?_ ?_ (Env.set_same _ _ _))
        · rw [Env.set_ne _ _ (by decide), Env.set_ne _ _ (by decide)]; exact e3'
        · rw [Env.set_ne _ _ (by decide), Env.set_ne _ _ (by decide)]; exact e4'
        · rw [Env.set_ne _ _ (by decide), Env.set_ne _ _ (by decide)]; exact e5'
      · refine st_nil (fin _ _ _ _ ?_ ?_ ?_ (Env.set_same _ _ _))
        · rw [Env.set_ne _ _ (by decide)]; exact e3'
        · rw [Env.set_ne _ _ (by decide)]; exact e4'
        · rw [Env.set_ne _ _ (by decide)]; exact e5'
    · rintro ρ σ' ⟨ss, hsl, hss, e3, e4, e5⟩
      obtain ⟨d, e, rfl⟩ : ∃ d e, ss = [d, e] := by
        match ss, hsl with
        | [d, e], _ => exact ⟨d, e, rfl⟩
      simp only [List.map] at hss
      refine st_cons ?_
      dsimp only [wpS, wpT, wpE, wpEs, wpA]
      refine s_call h3 (s_get e5 (s_get e3 (s_idxL hss rfl (s_get e3 (s_idxL hss rfl ?_)))))
      refine gcall (m := r.deep + 2) (by omega) (shifted_ok E d e r (by omega) _ _ _ fun σ₄ le₄ => ?_)
      refine st_cons ?_
      dsimp only [wpS, wpT, wpE, wpEs, wpA]
      refine s_call h5 (s_get (Env.set_same _ _ _) (s_call h4 ?_))
      have f3 : ∀ v, (ρ.set "_law_found" v) "_law_steps" = some (.ref c) := fun v => by rw [Env.set_ne _ _ (by decide)]; exact e3
      have f5 : ∀ v, (ρ.set "_law_found" v) "_law_rule" = some r.v := fun v => by rw [Env.set_ne _ _ (by decide)]; exact e5
      refine s_get (f5 _) (s_get (f3 _) (s_idxL (le₄ _ _ hss) rfl (s_get (f3 _) (s_idxL (le₄ _ _ hss) rfl ?_))))
      refine gcall (m := r.deep + 2) (by omega) (lm_rule E d e r _ _ fun σ₅ le₅ => ?_)
      refine gcall (m := (r.sh d e).deep + 2) (by rw [Rule.deep_sh]; omega) (same_ok E _ _ (plain_rule _) _ _ ?_)
      refine s_truth rfl (s_truth rfl (s_ifF Bool.false_ne_true (st_nil ?_)))
      refine st_cons ?_
      dsimp only [wpS, wpT, wpE, wpEs, wpA]
      have hss5 := le₅ _ _ (le₄ _ _ hss)
      refine s_call h5 (s_call h3 (s_get (Env.set_same _ _ _) (s_get (f3 _) (s_idxL hss5 rfl (s_sub (s_get (f3 _) (s_idxL hss5 rfl (s_sub ?_))))))))
      refine gcall (m := (r.sh d e).deep + 2) (by rw [Rule.deep_sh]; omega) (shifted_ok E (0 - d) (0 - e) (r.sh d e) (by rw [Rule.deep_sh]; omega) _ _ _ fun σ₆ le₆ => ?_)
      rw [Rule.sh_sh]
      refine s_get (f5 _) ?_
      exact gcall (m := r.deep + 2) (by omega) (same_ok E _ _ (plain_rule _) _ _ rfl)
end
end RS

open PySem PySem.W PyProof.Rows
theorem RS.looks : looksOpen PySem.Challenge.rw_uf050032_03.row.prog = true := by
  unfold looksOpen
  refine look_both (look_both (look_both (look_both (look_both ?_ ?_) ?_) ?_) ?_) ?_ <;> decide +kernel
theorem RS.part : PySem.Challenge.rw_uf050032_03.row.partSaid = true := by
  unfold OpenRow.partSaid
  rw [RS.looks]
  decide +kernel
theorem RS.rowSaid : PySem.Challenge.rw_uf050032_03.row.wellSaid = true := by
  unfold OpenRow.wellSaid
  rw [RS.part]
  decide +kernel
theorem RS.said_ok : PySem.Challenge.rw_uf050032_03.wellSaid = true := by
  unfold OpenLaw.wellSaid
  rw [RS.rowSaid]
  repeat refine look_both ?_ (by decide +kernel)
  rfl
theorem RS.hd.tw10187215299453303998 : True := trivial
theorem RS.hd.tw10370903517989177239 : True := trivial
theorem RS.hd.tw10453195487188656978 : True := trivial
theorem RS.hd.tw10898129627272476674 : True := trivial
theorem RS.hd.tw11034857694370739918 : True := trivial
theorem RS.hd.tw11249486350167945882 : True := trivial
theorem RS.hd.tw11384409287422504500 : True := trivial
theorem RS.hd.tw11426361180810125355 : True := trivial
theorem RS.hd.tw11505937705334038656 : True := trivial
theorem RS.hd.tw11679957324191467874 : True := trivial
theorem RS.hd.tw11712584343851294217 : True := trivial
theorem RS.hd.tw11737271115946143178 : True := trivial
theorem RS.hd.tw11789601471733150378 : True := trivial
theorem RS.hd.tw12092324608517413169 : True := trivial
theorem RS.hd.tw12152960165543536539 : True := trivial
theorem RS.hd.tw12416142148762857184 : True := trivial
theorem RS.hd.tw12916462315195399618 : True := trivial
theorem RS.hd.tw12987520159876406379 : True := trivial
theorem RS.hd.tw13077141385987883567 : True := trivial
theorem RS.hd.tw13097508091864303777 : True := trivial
theorem RS.hd.tw1341923016077802068 : True := trivial
theorem RS.hd.tw13465771696039946433 : True := trivial
theorem RS.hd.tw13779090087549855093 : True := trivial
theorem RS.hd.tw13792772407881494543 : True := trivial
theorem RS.hd.tw14603057139404703611 : True := trivial
theorem RS.hd.tw14687664260120859510 : True := trivial
theorem RS.hd.tw14714651531099907515 : True := trivial
theorem RS.hd.tw14784509180286961091 : True := trivial
theorem RS.hd.tw15143000843363612850 : True := trivial
theorem RS.hd.tw15238795445812299040 : True := trivial
theorem RS.hd.tw15442635398827988686 : True := trivial
theorem RS.hd.tw15500161075697168322 : True := trivial
theorem RS.hd.tw15570111957154868260 : True := trivial
theorem RS.hd.tw15819128915371739818 : True := trivial
theorem RS.hd.tw15981995500987584623 : True := trivial
theorem RS.hd.tw16270130151848552258 : True := trivial
theorem RS.hd.tw16359217202643549426 : True := trivial
theorem RS.hd.tw17446419948091175796 : True := trivial
theorem RS.hd.tw17487753065805570946 : True := trivial
theorem RS.hd.tw1756213251007722962 : True := trivial
theorem RS.hd.tw18116745219455094894 : True := trivial
theorem RS.hd.tw1990970027925973009 : True := trivial
theorem RS.hd.tw2179274053364120234 : True := trivial
theorem RS.hd.tw229152300453147730 : True := trivial
theorem RS.hd.tw231085267118263497 : True := trivial
theorem RS.hd.tw2422347595689663971 : True := trivial
theorem RS.hd.tw3264371270774179335 : True := trivial
theorem RS.hd.tw3872059338964811704 : True := trivial
theorem RS.hd.tw3994629861521553054 : True := trivial
theorem RS.hd.tw4128270087658156618 : True := trivial
theorem RS.hd.tw4551772790620813363 : True := trivial
theorem RS.hd.tw5125955999056907903 : True := trivial
theorem RS.hd.tw5130855195230096134 : True := trivial
theorem RS.hd.tw5151630886044746481 : True := trivial
theorem RS.hd.tw5181768595578549948 : True := trivial
theorem RS.hd.tw5286539175425126879 : True := trivial
theorem RS.hd.tw557598312011240156 : True := trivial
theorem RS.hd.tw5828856668441193311 : True := trivial
theorem RS.hd.tw6101450415938193216 : True := trivial
theorem RS.hd.tw6238322201436031884 : True := trivial
theorem RS.hd.tw6449490257757224472 : True := trivial
theorem RS.hd.tw7246019430763830956 : True := trivial
theorem RS.hd.tw7363927379043626533 : True := trivial
theorem RS.hd.tw7525147192656389782 : True := trivial
theorem RS.hd.tw8006441764106183761 : True := trivial
theorem RS.hd.tw8269085082079207359 : True := trivial
theorem RS.hd.tw8426251331254479990 : True := trivial
theorem RS.hd.tw8806495587359705316 : True := trivial
theorem RS.hd.tw932032872425836132 : True := trivial
theorem RS.hd.tw9352983117517944577 : True := trivial
theorem RS.hd.tw9377977713998340459 : True := trivial
theorem RS.hd.tw9423802990091372189 : True := trivial
theorem RS.hd.tw9424057185599365479 : True := trivial
theorem RS.hd.tw9706380112932371790 : True := trivial
theorem RS.hd.tw9966411268405148452 : True := trivial
set_option Elab.async true in
set_option maxRecDepth 100000 in
set_option maxHeartbeats 8000000 in
theorem RS.hd : PySem.Challenge.rw_uf050032_03.row.Holds := by
  w_on
  have said := RS.rowSaid
  o_head Hook.none
  (case hw => w_witness2)
  intro w s₀ s₁ mg mb G Y fa o pm cd doc dV kV ho hd hcd hD hmg hg args vals as hpre hlay hrd hwl hlo
  refine Ground.open G ?_
  intro T B D TE TW
  wrow_args hpre hlay hrd hwl hlo
  rename_i ns hs0 hlay0 hL1 hr1 hl2 a4 a3 sa vals a0 hL ra w1 r0 hI hr hc1 hc2
  refine enter_call ?_
  refine codeAny_mono ?_ (fun _ _ g => GoodW.toG g)
  have hs := RS.script_of w1 hL hI (by omega)
  have E : RS.Env03 (RS.wdOf PySem.Challenge.rw_uf050032_03.row.prog _ w s₁ sa ns ["rules_in", "moved", "shifted", "_law_cell_at", "_law_ref_by", "_law_leaf_by", "_law_pushed", "_law_is_ref", "_law_moved", "_law_same", "law"] mg mb) := {
    T := RS.topOk_of T (by kernel_rfl) hs
    typ := RS.typ_of
    rules_in := RS.fnOk_of T (by kernel_rfl)
    moved := RS.fnOk_of T (by kernel_rfl)
    shifted := RS.fnOk_of T (by kernel_rfl)
    cell := RS.fnOk_of T (by kernel_rfl)
    ref_by := RS.fnOk_of T (by kernel_rfl)
    leaf_by := RS.fnOk_of T (by kernel_rfl)
    pushed := RS.fnOk_of T (by kernel_rfl)
    is_ref := RS.fnOk_of T (by kernel_rfl)
    lmoved := RS.fnOk_of T (by kernel_rfl)
    same := RS.fnOk_of T (by kernel_rfl)
    law := RS.fnOk_of T (by kernel_rfl)
    names := (by decide : ∀ f ∈ ["rules_in", "moved", "shifted", "_law_cell_at", "_law_ref_by", "_law_leaf_by", "_law_pushed", "_law_is_ref", "_law_moved", "_law_same"], f ∈ ["rules_in", "moved", "shifted", "_law_cell_at", "_law_ref_by", "_law_leaf_by", "_law_pushed", "_law_is_ref", "_law_moved", "_law_same", "law"]) }
  exact RS.law_good (RS.law03 E _) hmg hg (by wrow_post) (raisesW_false (by wrow_none_raised))
theorem PySem.Challenge.cw_uf050032_03_holds : PySem.Challenge.rw_uf050032_03.Holds := by
  exact holds_law RS.said_ok fun _ => RS.hd
